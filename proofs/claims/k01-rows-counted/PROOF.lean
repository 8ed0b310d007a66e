import PyProof.Rows.All
import Wide.All
import OpenK.AllK
import Wide.FinOn
import KE.KDictList
import HandS.ForMost
import HandS.Wide
import HandS.ListItems
import HandS.Conv
import HandS.IsInst
import HandS.Deep
import HandS.ExcOwn
import HandS.WordsExc
import HandS.ExcInit
import PyProof.EqAt
import PyProof.EqKinds
import PyProof.TupleCall
import HandS.Base
import HandS.Call
import HandS.List
import HandS.Set
import HandS.Strs
import HandS.SortKw
import KE.KMinKey
import HandS.Style
import HandS.ReplaceLit
import HandS.Replace
import HandS.Flow
import HandS.ClsMeth
import HandS.Codes
import HandS.ReplaceList
import OpenK.KEqL
import PyProof.P3Eq
import HandS.ExcIs
import HandS.ExcField
import HandS.EndBits
import PySem.Challenge.RW_formferry_k01_rows_counted
set_option Elab.async false
set_option linter.all false
set_option maxRecDepth 100000
set_option maxHeartbeats 1000000
namespace Dv
open PySem PySem.Spec PyProof.Rows L2
/-! ### list(d.keys()), d walked by someone or not -/
theorem dget_r {H : Hp} {a : Addr} {kvs : List (Key × V)} {k : Key} (e : Rd H a (.dK kvs)) : DGet H a (kV k) (valV kvs k) := .inl ⟨kvs, k, e, rfl, rfl⟩
def tListKeys (te : TE) : TE := fun σ H Q => te σ H fun x H1 => ∃ (d : Addr) (kvs : List (Key × V)), x = .ref d ∧ Rd H1 d (.dK kvs) ∧ ∀ q, H1 q = none → Q (.ref q) (upd H1 q (.lst (kvs.map fun kv => kV kv.1)))
theorem pe_listKeys {X : Cx} {e : Expr} {te : TE} {p apos cpos pos : Pos} (hc : X.calm = true) (he : PE X e te) (hg : Gl X "list") (hm : X.mg "list" = none) (hv : bootBuiltins "list" = some (.type "list")) (hbase : attributeBase e "keys" X.env (eval e X.env) = eval e X.env := by rfl) (hline : (apos.endLine == cpos.line) = true := by rfl)
    (hs : starEach [.Call (.Attribute e "keys" apos) [] [] cpos] X.env = (false, eval (.Call (.Attribute e "keys" apos) [] [] cpos) X.env) :: starEach [] X.env := by rfl) :
    PE X (.Call (.Name "list" p) [.Call (.Attribute e "keys" apos) [] [] cpos] [] pos) (tListKeys te) := by
  refine ⟨fun pins s σ H Q I hq => ?_⟩
  refine wpAny_Call_Name_kw (ld_blt I hg hm hv ?_)
  refine PyProof.Rows.callWith_type1 ?_ hs rfl
  rw [hs]
  show wpAny _ _ (spliced ((false, eval (.Call (.Attribute e "keys" apos) [] [] cpos) X.env) :: backTo pos (starEach [] X.env))) _ _ s
  refine Calls.spliced_cons ?_
  refine wpAny_Call_method (T := "dict") (id := "dict.keys") hbase rfl hline F.plainAttrs_dict F.slot_dict_keys F.type_dict_keys (thn (he.run pins s σ H _ I hq) fun u s1 ⟨x, H1, I1, rx, d, kvs, ex, hd, q⟩ => ?_)
  subst ex
  obtain rfl : u = Value.ref d := rx
  obtain ⟨hz, hs0, vs, kv, hdo⟩ := dk_rd I1.hok hd
  obtain ⟨ep, hat⟩ := hdo.dictAt
  have lk : kvs.length = vs.length := Paired.length kv
  have I2 : Inv X pins σ H1 { s1 with heap := s1.heap.push { cls := .type "dict_keys", data := .fields #[.ref d] } } := I1.kept (t' := s1.toks) fun b ob q => Heap.get?_push_of_some _ q
  refine ⟨hdo.typeIs, hdo.mapOf.noDict, ?_⟩
  show wpAny _ _ (callWith cpos (.builtin "dict.keys") [.ref d] [] []) _ X.xe s1
  refine method_meetsIn F.slot_dict_keys F.entry_dict_keys rfl (PySem.evalArgs_none ⟨rfl, hdo.typeIs, F.args_dict_keys_1 _, _, PySem.W.kdl_meets_keys (mixKind X.prog X.w) d hs0, ⟨vs, hdo⟩, ?_⟩)
  refine Calls.spliced_nil ?_
  refine PySem.W.kdl_call (PySem.W.kdl_keys (knd := mixKind X.prog X.w) (d := d) (kvs := vs) (ep := ep)) (I1.ok.hd hc) ⟨⟨_, Heap.get?_push_size _ rfl, rfl, rfl⟩, hat.push _⟩ (by rw [← lk]; exact hz) fun h' tk acc' c' hkeep hS hacc => ?_
  have nq : H1 (s1.heap.push { cls := .type "dict_keys", data := .fields #[.ref d] }).objs.size = none := I2.hok.fresh (Nat.le_refl _)
  refine ⟨.ref _, upd H1 (s1.heap.push { cls := .type "dict_keys", data := .fields #[.ref d] }).objs.size (.lst (kvs.map fun kv => kV kv.1)), I2.laid hkeep (Nat.le_refl _) (show ObjOk X.prog X.w _ _ _ (.lst (kvs.map fun kv => kV kv.1)) from ⟨?_, acc'.toList, c', ?_, ?_⟩), rfl, q _ nq⟩
  · rw [List.length_map]; exact hz
  · have el : acc'.toList.length = acc'.size := by simp
    refine vals_of_at (by rw [List.length_map, el, hacc.1, lk]) fun j x w h1 h2 => ?_
    obtain ⟨k, y, hky, hi⟩ := hacc.2 j w (by rw [← Array.getElem?_toList]; exact h2)
    have e1 : (kvs.map (·.1))[j]? = some k := by
      rw [KV.keys kv, List.getElem?_map, hky] <;> rfl
    have e2 : (kvs.map fun kv => kV kv.1)[j]? = some (kV k) := by
      have e3 : (kvs.map fun kv => kV kv.1) = (kvs.map (·.1)).map kV := by rw [List.map_map] <;> rfl
      rw [e3, List.getElem?_map, e1] <;> rfl
    rw [e2] at h1
    cases h1
    exact keyIs_rel hi
  · rw [Array.toArray_toList]; exact hS
end Dv
namespace Dv
open PySem PySem.Spec PyProof.Rows L2
abbrev CXr (P : Program) (w : World) : CXT := L2.CX P w
theorem toX {P : Program} {w : World} {K : PySem.W.Frag} {mg : Str → Option Value} {base : Heap} {k : Nat} {f : Addr} {fd : FuncData} {ps : List Str} {sp : Sp} (h : FnOk P w K mg base CX0 k f fd ps sp) : FnOk P w K mg base (CXr P w) k f fd ps sp :=
  ⟨h.len, fun A outer s H args us vs Q E hr he hb hv hs => codeAny_mono (h.run A outer s H args us vs Q E hr he hb hv hs) fun r s' q => by
    cases r with
    | error e => exact (show False from q).elim
    | ok fl => cases fl <;> exact q⟩
theorem to0 {P : Program} {w : World} {K : PySem.W.Frag} {mg : Str → Option Value} {base : Heap} {k : Nat} {f : Addr} {fd : FuncData} {ps : List Str} {sp : Sp} (h : FnOk P w K mg base (CXr P w) k f fd ps sp) : FnOk P w K mg base CX0 k f fd ps (fun vs H Q _ => sp vs H Q E0) :=
  ⟨fun vs H Q E q => h.len vs H Q E0 q, fun A outer s H args us vs Q E hr he hb hv hs => codeAny_mono (h.run A outer s H args us vs Q E0 hr he hb hv hs) fun r s' q => by
    cases r with
    | error e =>
      obtain ⟨_, _, _, _, _, _, _, _, _, _, _, _, z⟩ := (show L2.CX P w outer H s E0 e s' from q)
      exact z.elim
    | ok fl => cases fl <;> exact q⟩
theorem pass_def {X : Cx} {E : XK} (tk : Takes X (fun cls d _ H => E cls d H)) : Passes (CXr X.prog X.w) X E := passes_call tk fun _ _ _ _ h => h
end Dv
namespace Dv
open PySem L2
/-! ### data -/
inductive D where
  | non | bl (b : Bool) | int (i : Int) | str (s : Str)
  | lst (xs : List D) | tup (xs : List D)
  | dct (ks : List Key) (xs : List D)
  | obj (c : Nat) (ns : List Str) (xs : List D)
  | scr (ns : List Int)
  /-- its top is new -/
  | nw (d : D)
/-- the classes' addresses, the written part -/
structure Ct0 where
  c : Nat → Addr
  K : PySem.W.Frag
/-- N: the addresses that count as new -/
structure Ct extends Ct0 where
  N : Addr → Prop
mutual
def Rep (cl : Ct) (M : Hp) : D → V → Prop
  | .non, v => v = .non
  | .bl b, v => v = .bl b
  | .int i, v => v = .int i
  | .str s, v => v = .str s
  | .lst ds, v => ∃ a vs, v = .ref a ∧ M a = some (.lst vs) ∧ Reps cl M ds vs
  | .tup ds, v => ∃ a vs, v = .ref a ∧ M a = some (.tup vs) ∧ Reps cl M ds vs
  | .dct ks ds, v => ∃ a kvs, v = .ref a ∧ Rd M a (.dK kvs) ∧ kvs.map (·.1) = ks ∧ Reps cl M ds (kvs.map (·.2))
  | .obj c ns ds, v => ∃ a dx fs, v = .ref a ∧ M a = some (.ins (cl.c c) dx fs) ∧ fs.map (·.1) = ns ∧ Reps cl M ds (fs.map (·.2))
  | .scr ns, v => ∃ a, v = .ref a ∧ SqL cl.K M a (ns.map V.int)
  | .nw d, v => Rep cl M d v ∧ ∃ a, v = .ref a ∧ cl.N a
def Reps (cl : Ct) (M : Hp) : List D → List V → Prop
  | [], vs => vs = []
  | d :: ds, vs => ∃ v r, vs = v :: r ∧ Rep cl M d v ∧ Reps cl M ds r
end
variable {cl : Ct}
theorem Rd.up {M M' : Hp} (h : Same M M') {a : Addr} {u : HO} (m : Rd M a u) : Rd M' a u := m.imp (h _ _) fun ⟨o, e⟩ => ⟨o, h _ _ e⟩
mutual
theorem Rep.mono {M M' : Hp} (h : Same M M') : ∀ {d : D} {v : V}, Rep cl M d v → Rep cl M' d v
  | .non, v, r => r
  | .bl b, v, r => r
  | .int i, v, r => r
  | .str s, v, r => r
  | .lst ds, v, ⟨a, vs, e, m, r⟩ => ⟨a, vs, e, h _ _ m, Reps.mono h r⟩
  | .tup ds, v, ⟨a, vs, e, m, r⟩ => ⟨a, vs, e, h _ _ m, Reps.mono h r⟩
  | .dct ks ds, v, ⟨a, vs, e, m, k, r⟩ => ⟨a, vs, e, Rd.up h m, k, Reps.mono h r⟩
  | .obj c ns ds, v, ⟨a, dx, fs, e, m, k, r⟩ => ⟨a, dx, fs, e, h _ _ m, k, Reps.mono h r⟩
  | .scr ns, v, ⟨a, e, m⟩ => ⟨a, e, h.seq m⟩
  | .nw d, v, ⟨r, n⟩ => ⟨Rep.mono h r, n⟩
theorem Reps.mono {M M' : Hp} (h : Same M M') : ∀ {ds : List D} {vs : List V}, Reps cl M ds vs → Reps cl M' ds vs
  | [], _, r => r
  | _ :: _, _, ⟨v, r, e, a, b⟩ => ⟨v, r, e, Rep.mono h a, Reps.mono h b⟩
end
theorem Reps.length {M : Hp} : ∀ {ds : List D} {vs : List V}, Reps cl M ds vs → ds.length = vs.length
  | [], _, r => by cases r; rfl
  | d :: ds, _, ⟨v, r, e, _, b⟩ => by subst e; simp [Reps.length b]
theorem Reps.cons {M : Hp} {d : D} {v : V} {ds : List D} {vs : List V} (a : Rep cl M d v) (b : Reps cl M ds vs) : Reps cl M (d :: ds) (v :: vs) := ⟨v, vs, rfl, a, b⟩
theorem Reps.nil {M : Hp} : Reps cl M [] [] := rfl
theorem Reps.get {M : Hp} : ∀ {ds : List D} {vs : List V} {i : Nat} {d : D}, Reps cl M ds vs → ds[i]? = some d → ∃ v, vs[i]? = some v ∧ Rep cl M d v
  | [], _, _, _, r, e => by simp at e
  | d :: ds, _, 0, x, ⟨v, r, e, a, b⟩, h => by subst e; simp at h; subst h; exact ⟨v, rfl, a⟩
  | d :: ds, _, i + 1, x, ⟨v, r, e, a, b⟩, h => by
    subst e
    obtain ⟨u, h1, h2⟩ := Reps.get (i := i) b (by simpa using h)
    exact ⟨u, by simpa using h1, h2⟩
theorem Reps.append {M : Hp} : ∀ {ds es : List D} {vs us : List V}, Reps cl M ds vs → Reps cl M es us → Reps cl M (ds ++ es) (vs ++ us)
  | [], es, _, us, r, q => by cases r; exact q
  | d :: ds, es, _, us, ⟨v, r, e, a, b⟩, q => by subst e; exact Reps.cons a (Reps.append b q)
theorem Reps.take {M : Hp} : ∀ {ds : List D} {vs : List V} (n : Nat), Reps cl M ds vs → Reps cl M (ds.take n) (vs.take n)
  | ds, vs, 0, r => by simp; exact Reps.nil
  | [], _, n + 1, r => by cases r; exact Reps.nil
  | d :: ds, _, n + 1, ⟨v, r, e, a, b⟩ => by subst e; exact Reps.cons a (Reps.take n b)
theorem Reps.drop {M : Hp} : ∀ {ds : List D} {vs : List V} (n : Nat), Reps cl M ds vs → Reps cl M (ds.drop n) (vs.drop n)
  | ds, vs, 0, r => by simpa using r
  | [], _, n + 1, r => by cases r; exact Reps.nil
  | d :: ds, _, n + 1, ⟨v, r, e, a, b⟩ => by subst e; exact Reps.drop n b
theorem Reps.set {M : Hp} {x : D} {y : V} (q : Rep cl M x y) : ∀ {ds : List D} {vs : List V} (n : Nat), Reps cl M ds vs → Reps cl M (ds.set n x) (vs.set n y)
  | [], _, n, r => by cases r; exact Reps.nil
  | d :: ds, _, 0, ⟨v, r, e, a, b⟩ => by subst e; exact Reps.cons q b
  | d :: ds, _, n + 1, ⟨v, r, e, a, b⟩ => by subst e; exact Reps.cons a (Reps.set q n b)
theorem Reps.dropLast {M : Hp} {ds : List D} {vs : List V} (r : Reps cl M ds vs) : Reps cl M ds.dropLast vs.dropLast := by
  rw [List.dropLast_eq_take, List.dropLast_eq_take, r.length]
  exact r.take _
theorem Reps.eraseIdx {M : Hp} : ∀ {ds : List D} {vs : List V} (n : Nat), Reps cl M ds vs → Reps cl M (ds.eraseIdx n) (vs.eraseIdx n)
  | [], _, n, r => by cases r; exact Reps.nil
  | d :: ds, _, 0, ⟨v, r, e, a, b⟩ => by subst e; exact b
  | d :: ds, _, n + 1, ⟨v, r, e, a, b⟩ => by subst e; exact Reps.cons a (Reps.eraseIdx n b)
theorem Reps.reverse {M : Hp} : ∀ {ds : List D} {vs : List V}, Reps cl M ds vs → Reps cl M ds.reverse vs.reverse
  | [], _, r => by cases r; exact Reps.nil
  | d :: ds, _, ⟨v, r, e, a, b⟩ => by
    subst e
    rw [List.reverse_cons, List.reverse_cons]
    exact Reps.append (Reps.reverse b) (Reps.cons a Reps.nil)
/-! ### flat data, the value it is -/
def D.fl : D → Option V
  | .non => some .non
  | .bl b => some (.bl b)
  | .int i => some (.int i)
  | .str s => some (.str s)
  | _ => none
theorem Rep.fl {M : Hp} {d : D} {v u : V} (r : Rep cl M d v) (h : d.fl = some u) : v = u := by
  cases d <;> simp [D.fl] at h <;> (subst h; exact r)
theorem Rep.of_fl {M : Hp} {d : D} {u : V} (h : d.fl = some u) : Rep cl M d u := by
  cases d <;> simp [D.fl] at h <;> (subst h; exact rfl)
def D.un : D → D
  | .nw d => d.un
  | d => d
theorem Rep.un {M : Hp} : ∀ {d : D} {v : V}, Rep cl M d v → Rep cl M d.un v
  | .nw d, v, r => Rep.un (d := d) r.1
  | .non, v, r => r
  | .bl _, v, r => r
  | .int _, v, r => r
  | .str _, v, r => r
  | .lst _, v, r => r
  | .tup _, v, r => r
  | .dct _ _, v, r => r
  | .obj _ _ _, v, r => r
  | .scr _, v, r => r
theorem Reps.un {M : Hp} : ∀ {ds : List D} {vs : List V}, Reps cl M ds vs → Reps cl M (ds.map D.un) vs
  | [], _, r => r
  | d :: ds, _, ⟨v, r, e, a, b⟩ => ⟨v, r, e, a.un, Reps.un b⟩
theorem un_fl : ∀ {d : D} {v : V}, d.fl = some v → d.un = d
  | .nw d, v, h => by cases h
  | .non, v, r => rfl
  | .bl _, v, r => rfl
  | .int _, v, r => rfl
  | .str _, v, r => rfl
  | .lst _, v, r => rfl
  | .tup _, v, r => rfl
  | .dct _ _, v, r => rfl
  | .obj _ _ _, v, r => rfl
  | .scr _, v, r => rfl
/-- the object of a datum that is held by its top: its parts in M -/
def Top (cl : Ct) (M : Hp) (d : D) (o : HO) : Prop := match d with
  | .lst ds => ∃ vs, o = .lst vs ∧ Reps cl M ds vs
  | .tup ds => ∃ vs, o = .tup vs ∧ Reps cl M ds vs
  | .dct ks ds => ∃ kvs, o = .dK kvs ∧ kvs.map (·.1) = ks ∧ Reps cl M ds (kvs.map (·.2))
  | .obj c ns ds => ∃ dx fs, o = .ins (cl.c c) dx fs ∧ fs.map (·.1) = ns ∧ Reps cl M ds (fs.map (·.2))
  | _ => False
theorem Top.mono {M M' : Hp} (h : Same M M') {d : D} {o : HO} (t : Top cl M d o) : Top cl M' d o := by
  cases d with
  | lst ds => obtain ⟨vs, e, r⟩ := t; exact ⟨vs, e, r.mono h⟩
  | tup ds => obtain ⟨vs, e, r⟩ := t; exact ⟨vs, e, r.mono h⟩
  | dct ks ds => obtain ⟨vs, e, k, r⟩ := t; exact ⟨vs, e, k, r.mono h⟩
  | obj c ns ds => obtain ⟨dx, vs, e, k, r⟩ := t; exact ⟨dx, vs, e, k, r.mono h⟩
  | _ => exact t.elim
/-- held by its top in H, its parts in M -/
def Rep1 (cl : Ct) (M H : Hp) (d : D) (v : V) : Prop := d.fl = some v ∨ (∃ a o, v = .ref a ∧ H a = some o ∧ Top cl M d o) ∨ (∃ ns a, d = .scr ns ∧ v = .ref a ∧ SqL cl.K H a (ns.map V.int)) ∨ ∃ ks ds a o kvs, d = .dct ks ds ∧ v = .ref a ∧ H a = some (.frz o (.dK kvs)) ∧ kvs.map (·.1) = ks ∧ Reps cl M ds (kvs.map (·.2))
theorem Rep.one {M H : Hp} (hs : Same M H) : ∀ {d : D} {v : V}, Rep cl M d v → Rep1 cl M H d.un v := by
  intro d
  induction d using D.un.induct with
  | case1 d ih => intro v r; exact ih r.1
  | case2 d hn =>
  intro v r
  cases d with
  | nw d => exact absurd rfl (hn d)
  | non => exact .inl (by cases r; rfl)
  | bl b => exact .inl (by cases r; rfl)
  | int b => exact .inl (by cases r; rfl)
  | str b => exact .inl (by cases r; rfl)
  | lst ds => obtain ⟨a, vs, e, m, r⟩ := r; exact .inr (.inl ⟨a, _, e, hs _ _ m, vs, rfl, r⟩)
  | tup ds => obtain ⟨a, vs, e, m, r⟩ := r; exact .inr (.inl ⟨a, _, e, hs _ _ m, vs, rfl, r⟩)
  | dct ks ds =>
    obtain ⟨a, vs, e, m, k, r⟩ := r
    rcases m with m | ⟨o, m⟩
    · exact .inr (.inl ⟨a, _, e, hs _ _ m, vs, rfl, k, r⟩)
    · exact .inr (.inr (.inr ⟨ks, ds, a, o, vs, rfl, e, hs _ _ m, k, r⟩))
  | obj c ns ds => obtain ⟨a, dx, fs, e, m, k, r⟩ := r; exact .inr (.inl ⟨a, _, e, hs _ _ m, dx, fs, rfl, k, r⟩)
  | scr ns => obtain ⟨a, e, m⟩ := r; exact .inr (.inr (.inl ⟨ns, a, rfl, e, hs.seq m⟩))
theorem Rep.of_top {M : Hp} {d : D} {a : Addr} {o : HO} (m : M a = some o) (t : Top cl M d o) : Rep cl M d (.ref a) := by
  cases d with
  | lst ds => obtain ⟨vs, rfl, r⟩ := t; exact ⟨a, vs, rfl, m, r⟩
  | tup ds => obtain ⟨vs, rfl, r⟩ := t; exact ⟨a, vs, rfl, m, r⟩
  | dct ks ds => obtain ⟨vs, rfl, k, r⟩ := t; exact ⟨a, vs, rfl, .inl m, k, r⟩
  | obj c ns ds => obtain ⟨dx, fs, rfl, k, r⟩ := t; exact ⟨a, dx, fs, rfl, m, k, r⟩
  | _ => exact t.elim
theorem Rep1.rep {M : Hp} {d : D} {v : V} (r : Rep1 cl M M d v) : Rep cl M d v := by
  rcases r with h | ⟨a, o, rfl, m, t⟩ | ⟨ns, a, rfl, rfl, m⟩ | ⟨ks, ds, a, o, kvs, rfl, rfl, m, k, r⟩
  · exact Rep.of_fl h
  · exact Rep.of_top m t
  · exact ⟨a, rfl, m⟩
  · exact ⟨a, kvs, rfl, .inr ⟨o, m⟩, k, r⟩
theorem Rep1.mono {M H M' H' : Hp} (h : Same M M') (h' : Same H H') {d : D} {v : V} (r : Rep1 cl M H d v) : Rep1 cl M' H' d v := by
  rcases r with h | ⟨a, o, rfl, m, t⟩ | ⟨ns, a, rfl, rfl, m⟩ | ⟨ks, ds, a, o, kvs, rfl, rfl, m, k, r⟩
  · exact .inl h
  · exact .inr (.inl ⟨a, o, rfl, h' _ _ m, t.mono h⟩)
  · exact .inr (.inr (.inl ⟨ns, a, rfl, rfl, h'.seq m⟩))
  · exact .inr (.inr (.inr ⟨ks, ds, a, o, kvs, rfl, rfl, h' _ _ m, k, r.mono h⟩))
end Dv
namespace Dv
open PySem PySem.Spec PyProof.Rows
/-! ### the number of unlike texts in a list -/
/-- the unlike ones -/
def dst (xs : List Str) : List Str := xs.foldl (fun acc x => if x ∈ acc then acc else acc ++ [x]) []
theorem dst_snoc0 (l : List Str) (x : Str) : dst (l ++ [x]) = if x ∈ dst l then dst l else dst l ++ [x] := by
  unfold dst
  rw [List.foldl_append]
  rfl
theorem mem_dst (l : List Str) (x : Str) : x ∈ dst l ↔ x ∈ l := by
  have key : ∀ (l acc : List Str), x ∈ l.foldl (fun acc x => if x ∈ acc then acc else acc ++ [x]) acc ↔ x ∈ acc ∨ x ∈ l := by
    intro l
    induction l with
    | nil => intro acc; simp
    | cons y l ih =>
      intro acc
      rw [List.foldl_cons, ih]
      by_cases h : y ∈ acc
      · rw [if_pos h, List.mem_cons]
        constructor
        · rintro (z | z)
          · exact .inl z
          · exact .inr (.inr z)
        · rintro (z | z | z)
          · exact .inl z
          · exact .inl (z ▸ h)
          · exact .inr z
      · rw [if_neg h, List.mem_append, List.mem_singleton, List.mem_cons, or_assoc]
  unfold dst
  rw [key]
  simp
theorem dst_snoc (l : List Str) (x : Str) : dst (l ++ [x]) = if x ∈ l then dst l else dst l ++ [x] := by
  rw [dst_snoc0]
  by_cases h : x ∈ l
  · rw [if_pos h, if_pos ((mem_dst l x).mpr h)]
  · rw [if_neg h, if_neg fun z => h ((mem_dst l x).mp z)]
theorem dst_le (l : List Str) : (dst l).length ≤ l.length := by
  have key : ∀ (l acc : List Str), (l.foldl (fun acc x => if x ∈ acc then acc else acc ++ [x]) acc).length ≤ acc.length + l.length := by
    intro l
    induction l with
    | nil => intro acc; simp
    | cons y l ih =>
      intro acc
      rw [List.foldl_cons]
      refine Nat.le_trans (ih _) ?_
      split <;> simp <;> omega
  simpa [dst] using key l []
theorem dst_nodup {l : List Str} (h : l.Nodup) : dst l = l := by
  have key : ∀ (l acc : List Str), (acc ++ l).Nodup → l.foldl (fun acc x => if x ∈ acc then acc else acc ++ [x]) acc = acc ++ l := by
    intro l
    induction l with
    | nil => intro acc _; simp
    | cons y l ih =>
      intro acc hn
      have hy : y ∉ acc := fun z => (List.nodup_append.mp hn).2.2 y z y List.mem_cons_self rfl
      rw [List.foldl_cons, if_neg hy, ih (acc ++ [y]) (by simpa using hn)]
      simp
  simpa [dst] using key l [] (by simpa using h)
/-- fewer unlike ones: one stands twice -/
theorem dst_lt {l : List Str} : (dst l).length < l.length ↔ ¬ l.Nodup := by
  constructor
  · intro h z
    rw [dst_nodup z] at h
    exact Nat.lt_irrefl _ h
  · intro h
    have key : ∀ (l acc : List Str), acc.Nodup → ¬ (acc ++ l).Nodup → (l.foldl (fun acc x => if x ∈ acc then acc else acc ++ [x]) acc).length < acc.length + l.length := by
      intro l
      induction l with
      | nil => intro acc ha z; simp at z; exact absurd ha z
      | cons y l ih =>
        intro acc ha z
        rw [List.foldl_cons]
        by_cases hy : y ∈ acc
        · rw [if_pos hy]
          have le : ∀ (l acc : List Str), (l.foldl (fun acc x => if x ∈ acc then acc else acc ++ [x]) acc).length ≤ acc.length + l.length := by
            intro l
            induction l with
            | nil => intro acc; simp
            | cons y l ih =>
              intro acc
              rw [List.foldl_cons]
              refine Nat.le_trans (ih _) ?_
              split <;> simp <;> omega
          have := le l acc
          rw [List.length_cons]
          omega
        · rw [if_neg hy]
          have := ih (acc ++ [y]) (List.nodup_append.mpr ⟨ha, by simp, fun a h1 b h2 => by rw [List.mem_singleton] at h2; rintro rfl; exact hy (h2 ▸ h1)⟩) (by simpa using z)
          simp at this ⊢
          omega
    have := key l [] (by simp) (by simpa using h)
    simpa [dst] using this
section
variable {prog : Program} {w : World} {A : Around} {R : Result → Shared → Prop} {I : Addr} {fp wr : List Addr} {G : Array GenState → Array GenState → Prop} {n : Nat} {P : Nat → Value → Prop} {St : Nat → Shared → Prop}
theorem loopT (W : WalksS prog w A.in1 I fp wr G n P St) (S : Addr) (hSf : S ∉ fp) (xs : List Str) (hsz : xs.length = n) (hn1 : n ≤ 4000)
    (hval : ∀ i v, P i v → ∃ t, v = .str (xs.getD i Str.empty) t) :
    ∀ (k i : Nat) (s : Shared), n - i = k → i ≤ n → St i s →
      s.heap.SetOf (PySem.strKind prog w) S (fun k' => (xs.take i).any (· == k')) (dst (xs.take i)).length →
      (∀ s', Moved (S :: wr) G s s' → s'.heap.SetOf (PySem.strKind prog w) S (fun k' => (xs.take n).any (· == k')) (dst (xs.take n)).length → R (.ok (.ret .none)) s') →
      codeAny (model prog w) A (.builtin "set.update.loop" ⟨[.ref S, .ref I], []⟩) R s := by
  have hSw : S ∉ wr := fun h => hSf (W.sub _ h)
  have hsub : ∀ b ∈ wr, b ∈ S :: wr := fun b hb => List.mem_cons_of_mem _ hb
  intro k
  induction k with
  | zero =>
    intro i s hk hi hst hS hR
    have hin : i = n := by omega
    subst hin
    refine codeAny_builtin PyProof.Rows.F.entry_set_update_loop ?_
    rw [Around.under_plainId PyProof.Rows.F.plain_set_update_loop _]
    show wpAny _ A.in1 (pyNext (.ref I) >>= _) _ _ s
    refine wpAny_bind (W.done s _ _ hst fun s' hm => ?_)
    show wpAny _ A.in1 (ret Value.none) _ _ s'
    exact wpAny_pure (hR s' (hm.mono hsub) (by
      obtain ⟨o, es, ep, t, ho, rest⟩ := hS
      exact ⟨o, es, ep, t, hm.heap S _ hSw ho, rest⟩))
  | succ k ih =>
    intro i s hk hi hst hS hR
    have hlt : i < n := by omega
    refine codeAny_builtin PyProof.Rows.F.entry_set_update_loop ?_
    rw [Around.under_plainId PyProof.Rows.F.plain_set_update_loop _]
    show wpAny _ A.in1 (pyNext (.ref I) >>= _) _ _ s
    refine wpAny_bind (W.item i s _ _ hlt hst fun v s' hP hst' hm => ?_)
    obtain ⟨t, rfl⟩ := hval i v hP
    have hS' : s'.heap.SetOf (PySem.strKind prog w) S (fun k' => (xs.take i).any (· == k')) (dst (xs.take i)).length := by
      obtain ⟨o, es, ep, tb, ho, rest⟩ := hS
      exact ⟨o, es, ep, tb, hm.heap S _ hSw ho, rest⟩
    show wpAny _ A.in1 (holding [Value.str (xs.getD i Str.empty) t] (setAdd S (.str (xs.getD i Str.empty) t)) >>= _) _ _ s'
    refine wpAny_bind (wpAny_holding ?_)
    unfold setAdd
    refine wpAny_holding ?_
    refine wpAny_bind ((PySem.strKind prog w).pyHash (k := xs.getD i Str.empty) (strKind_is _ _ _ _) ?_)
    refine wpAny_setAddHashed_of (knd := PySem.strKind prog w) (s := { s' with toks := s'.toks + 1 }) (strKind_is _ _ _ _) rfl hS' (by have := dst_le (xs.take i); rw [List.length_take] at this; unfold scanBound; omega) fun h' hsb hS2 => ?_
    have hSi : h'.SetOf (PySem.strKind prog w) S (fun k' => (xs.take (i + 1)).any (· == k')) (dst (xs.take (i + 1))).length := by
      have hx : i < xs.length := by omega
      have e1 : xs.getD i Str.empty = xs[i] := by rw [List.getD_eq_getElem?_getD, List.getElem?_eq_getElem hx]; rfl
      have e2 : xs.take (i + 1) = xs.take i ++ [xs[i]] := by rw [List.take_add_one, List.getElem?_eq_getElem hx]; rfl
      rw [e1] at hS2
      refine SetOf_congr hS2 (fun k' => ?_) ?_
      · rw [e2, List.any_append]
        congr 1
        by_cases e : k' = xs[i]
        · subst e; simp
        · have hb : (xs[i] == k') = false := by simpa [beq_iff_eq] using (fun h' : xs[i] = k' => e h'.symm)
          simp [hb, e]
      · rw [e2, dst_snoc]
        have em : ((xs.take i).any fun x => x == xs[i]) = decide (xs[i] ∈ xs.take i) := by
          rw [Bool.eq_iff_iff, List.any_eq_true, decide_eq_true_eq]
          exact ⟨fun ⟨y, h1, h2⟩ => eq_of_beq h2 ▸ h1, fun h => ⟨_, h, beq_self_eq_true _⟩⟩
        show (if ((xs.take i).any fun x => x == xs[i]) = true then _ else _) = _
        rw [em]
        by_cases e : xs[i] ∈ xs.take i
        · rw [if_pos e, if_pos (decide_eq_true e)]
        · rw [if_neg e, if_neg (by simpa using e), List.length_append]
          rfl
    refine wpAny_pure ⟨plainId_quiet PyProof.Rows.F.plain_set_update_loop _, ih (i + 1) _ (by omega) hlt (W.frame _ s' _ _ hst' (Nat.le_succ _) fun b hb o e => ?_) hSi fun s'' hm'' hS'' => ?_⟩
    · rw [hsb.2 b (fun h : b = S => hSf (by rw [← h]; exact hb))]; exact e
    · refine hR s'' (Moved.trans W.gtrans ((hm.mono hsub).then_heap (Nat.le_succ _) fun b o hb e => ?_) hm'') hS''
      rw [hsb.2 b (fun h : b = S => hb (by rw [h]; exact List.mem_cons_self))]; exact e
end

section
variable {prog : Program} {w : World} {A : Around} {E : Value → Shared → Prop} {s : Shared}
set_option maxHeartbeats 3200000 in
theorem call_set_listT {l : Addr} {items : Array Value} {xs : List Str} {Q : Value → Shared → Prop}
    (hh : A.handled = none) (hl : s.heap.IsList l items) (hi : PyProof.Rows.StrsAre items.toList xs) (hn1 : xs.length ≤ 4000)
    (h : ∀ (h' : Heap) (tk : Nat), h'.SetOf (PySem.strKind prog w) s.heap.objs.size (fun k' => (xs.take items.size).any (· == k')) (dst (xs.take items.size)).length →
      (∀ b o, b < s.heap.objs.size → s.heap.get? b = some o → h'.get? b = some o) → Q (.ref s.heap.objs.size) { s with heap := h', toks := tk }) :
    wpAny (model prog w) A (call (.type "set") [.ref l]) Q E s := by
  obtain ⟨c, tl, hmro⟩ := PySem.F.called_set.mro
  have hmade := PySem.F.called_set.made
  have hsub := PySem.F.called_set.sub
  refine wpAny_call (codeAny_of_tree ?_)
  show wpAny _ _ (callAny (.type "set") _) _ _ _
  refine wpAny_pure ⟨Code.quiet_builtin _ (by decide +kernel), codeAny_builtin PySem.F.entry_type_call ?_⟩
  rw [Around.under_plain (weight_type_call_type "set" [.ref l] []) rfl]
  have h1 := PySem.F.called_set.notType
  have h2 := PySem.F.called_set.canCreate
  have hct := PySem.F.typeCall_set_1 (.ref l)
  repeat (any_goals (first | assumption | wp_step))

  refine codeAny_mono (code_set_new_1 (.ref l) (E := E) (Q₁ := fun obj s₁ => ∃ led : Bool, obj = .ref s.heap.objs.size ∧ s₁ = { s with heap := s.heap.push { cls := .type "set", dict := none, data := .set #[] 0 (.fresh 0 0 led) } }) fun led => ⟨led, rfl, rfl⟩) fun r s₁ hr => ?_
  cases r with
  | error e => exact hr
  | ok fl =>
    cases fl with
    | ret obj =>
      obtain ⟨led, rfl, rfl⟩ := hr
      have hS : (s.heap.push { cls := .type "set", dict := none, data := .set #[] 0 (.fresh 0 0 led) }).get? s.heap.objs.size = some { cls := .type "set", dict := none, data := .set #[] 0 (.fresh 0 0 led) } := Heap.get?_push_size _ rfl
      have hT : Shared.TypeIs { s with heap := s.heap.push { cls := .type "set", dict := none, data := .set #[] 0 (.fresh 0 0 led) } } (.ref s.heap.objs.size) "set" := ⟨_, hS, rfl⟩
      have hli := PySem.F.called_set.init.lookup
      have hbi := PySem.F.called_set.init.bind (.ref s.heap.objs.size)
      repeat (any_goals (first | assumption | wp_step))

      refine codeAny_mono (codeAny_call_builtin (R := wants (fun r s₂ => r = .none ∧ ∃ h' tk, s₂ = { s with heap := h', toks := tk } ∧
          h'.SetOf (PySem.strKind prog w) s.heap.objs.size (fun k' => (xs.take items.size).any (· == k')) (dst (xs.take items.size)).length ∧
          (∀ b o, b < s.heap.objs.size → s.heap.get? b = some o → h'.get? b = some o)) E) PySem.F.called_set.init.plain PySem.F.entry_set_init (check_set_init_1 hT ?_)) fun r₂ s₂ hr₂ => ?_
      · obtain ⟨ol, hol, hcl, nl, hdl⟩ := hl
        obtain ⟨ocls, odict, odata, oslots⟩ := ol
        simp only at hcl hdl
        subst hcl; subst hdl
        have hol' : (s.heap.push { cls := .type "set", dict := none, data := .set #[] 0 (.fresh 0 0 led) }).get? l = some { cls := .type "list", dict := odict, data := .seq items nl, slots := oslots } := Heap.get?_push_of_some _ hol
        have hsls := PySem.F.sub_list_set
        have hslf := PySem.F.sub_list_frozenset
        have hne : (Value.type "list" == Value.type "dict") = false := by decide
        have hl1 : (s.heap.push { cls := .type "set", dict := none, data := .set #[] 0 (.fresh 0 0 led) }).IsList l items := ⟨_, hol', rfl, nl, rfl⟩
        unfold Builtin.«set.__init__» noKeywords Builtin.Frozenset.updateFrom
        generalize hPI : pyIter = PI
        wp_walk
        subst hPI

        refine wpAny_pyIter_list hl1 ?_
        refine wpAny_bind (wpAny_runValue ?_)
        have hlS : l < s.heap.objs.size := Heap.lt_size hol
        have hh3 : A.in1.in1.in1.handled = none := by simp [hh]
        have hneI : l ≠ (s.heap.push { cls := .type "set", dict := none, data := .set #[] 0 (.fresh 0 0 led) }).objs.size := by
          rw [Heap.size_push]; exact Nat.ne_of_lt (Nat.lt_succ_of_lt hlS)
        have hSf : s.heap.objs.size ∉ [(s.heap.push { cls := .type "set", dict := none, data := .set #[] 0 (.fresh 0 0 led) }).objs.size, l] := by
          rw [Heap.size_push]; simp only [List.mem_cons, List.mem_singleton, List.not_mem_nil, or_false, not_or]
          exact ⟨Nat.ne_of_lt (Nat.lt_succ_self _), Nat.ne_of_gt hlS⟩
        have hsz : xs.length = items.size := by rw [← StrsAre.len_eq hi, Array.length_toList]
        have hval : ∀ (i : Nat) (v : Value), items[i]? = some v → ∃ t, v = .str (xs.getD i Str.empty) t := fun i v hv => SS.strs_at hi i v (by rw [Array.getElem?_toList]; exact hv)
        refine loopT ((Walks.list hh3 _ l hneI items).toS) s.heap.objs.size
          hSf xs hsz (by rw [← hsz]; exact hn1) hval (items.size - 0) 0 _ (by omega) (Nat.zero_le _)
          ⟨⟨_, Heap.get?_push_size _ rfl, rfl, rfl⟩, (hl1.push _)⟩ ?hS0 ?hR
        case hS0 =>
          have hget : ((s.heap.push { cls := .type "set", dict := none, data := .set #[] 0 (.fresh 0 0 led) }).push { cls := .type "list_iterator", data := .fields #[.ref l, .int 0 0] }).get? s.heap.objs.size
              = some { cls := .type "set", dict := none, data := .set #[] 0 (.fresh 0 0 led) } := Heap.get?_push_of_some _ hS
          exact PyProof.Rows.SetOf_congr ((PyProof.Rows.setObjOf_fresh (knd := PySem.strKind prog w) led).setOf hget (by unfold scanBound; omega)) (fun _ => rfl) rfl
        case hR =>
          intro s' hm hS'
          obtain ⟨h', g', d', tk', os'⟩ := s'
          have eg : g' = s.gens := hm.gens
          have ed : d' = s.drawn := hm.drawn
          have eo : os' = s.os := hm.os
          subst eg; subst ed; subst eo
          show wpAny _ _ _ _ _ _
          refine wpAny_pure ?_
          show wpAny _ _ (ret Value.none) _ _ _
          refine wpAny_pure ⟨rfl, h', tk', rfl, hS', fun b o hb e => ?_⟩
          have hb1 : b ≠ s.heap.objs.size := Nat.ne_of_lt hb
          have hb2 : b ≠ (s.heap.push { cls := .type "set", dict := none, data := .set #[] 0 (.fresh 0 0 led) }).objs.size := by
            rw [Heap.size_push]; exact Nat.ne_of_lt (Nat.lt_succ_of_lt hb)
          exact hm.heap b o (by simp only [List.mem_cons, List.mem_singleton, List.not_mem_nil, or_false, not_or]; exact ⟨hb1, hb2⟩) (Heap.get?_push_of_some _ (Heap.get?_push_of_some _ e))

      · cases r₂ with
        | error e => exact hr₂
        | ok fl₂ =>
          cases fl₂ with
          | ret r =>
            obtain ⟨rfl, h', tk, rfl, hS', hk'⟩ := hr₂
            repeat (any_goals (first | assumption | wp_step))
            exact h _ _ hS' hk'
          | _ => exact hr₂.elim
    | _ => exact hr.elim

end

open L2
/-- len(set(xs)), xs a list of texts -/
def tLenSetT (K : PySem.W.Frag) (ta : TE) : TE := fun σ H Q => ta σ H fun x H1 => ∃ (l : Addr) (xs : List Str), x = .ref l ∧ SqL K H1 l (xs.map V.str) ∧ xs.length ≤ 4000 ∧ Q (.int (dst xs).length) H1
theorem pe_lenSetT {X : Cx} {a : Expr} {ta : TE} {p p2 q pos : Pos} (hc : X.calm = true) (hg : Gl X "len") (hm : X.mg "len" = none) (hg2 : Gl X "set") (hm2 : X.mg "set" = none) (ha : PE X a ta)
    (na : starEach [a] X.env = (false, eval a X.env) :: starEach [] X.env := by rfl) : PE X (.Call (.Name "len" p) [.Call (.Name "set" p2) [a] [] q] [] pos) (tLenSetT X.K ta) := by
  refine ⟨fun pins s σ H Q I h => ?_⟩
  refine Call_ (ld_blt I hg hm boot_len ?_)
  refine PyProof.Rows.callWith_builtin1 (PyProof.Rows.args_cons ?_ rfl) rfl rfl
  refine Call_ (ld_blt I hg2 hm2 boot_set ?_)
  refine PyProof.Rows.callWith_type1 (PyProof.Rows.args_cons (thn (ha.run pins s σ H _ I h) fun v s1 ⟨x, H1, I1, r1, q1⟩ => PyProof.Rows.args_nil ?_) na) na rfl
  obtain ⟨l, xs, rfl, hq, h1, q1⟩ := q1
  cases r1
  obtain ⟨its, r, pl, hz⟩ := I1.list hq
  refine call_set_listT (I1.ok.hd hc) pl.isList (by simpa using strsAre_of r) h1 fun h' tk hS hk => ?_
  refine PyProof.Rows.args_nil ?_
  have hl : its.toArray.size = xs.length := by rw [List.size_toArray, ← r.length, List.length_map]
  rw [hl, List.take_length] at hS
  obtain ⟨o, es, ep, t, ho, hex, hd, _, _, _, hf, hn⟩ := hS
  have I2 : Inv X pins σ H1 { s1 with heap := h', toks := tk } := I1.kept fun b o e => hk b o (Heap.lt_size e) e
  have hb := dst_le xs
  exact call_len_set ho hex hd hf (by rw [hn] <;> omega) ⟨.int (dst xs).length, H1, I2.tok _, ⟨_, by rw [hn]⟩, q1⟩
end Dv
namespace Dv
open PySem PySem.Spec PyProof.Rows L2
/-! ### min(xs, default=None), xs a list of whole numbers -/
def minI : List Int → Option Int
  | [] => none
  | x :: r => some (r.foldl (fun m y => if y < m then y else m) x)
/-- the value told -/
def MinV (ns : List Int) (v : Value) : Prop := match minI ns with
  | none => v = .none
  | some m => ∃ t, v = .int m t
def minTo (val : Nat → Int) : Nat → Int
  | 0 => val 0
  | k + 1 => if val (k + 1) < minTo val k then val (k + 1) else minTo val k
theorem minTo_best (val : Nat → Int) : ∀ k, val (argBest (fun i j => decide (val i < val j)) k) = minTo val k
  | 0 => rfl
  | k + 1 => by
    have ih := minTo_best val k
    unfold argBest minTo
    rw [← ih]
    by_cases h : val (k + 1) < val (argBest (fun i j => decide (val i < val j)) k)
    · simp [h]
    · simp [h]
theorem foldl_min (val : Nat → Int) (r : List Int) : ∀ k, k ≤ r.length → (∀ i, i < r.length → r[i]? = some (val (i + 1))) → (r.take k).foldl (fun m y => if y < m then y else m) (val 0) = minTo val k
  | 0, _, _ => by simp [minTo]
  | k + 1, hk, h => by
    have ih := foldl_min val r k (by omega) h
    have e : r.take (k + 1) = r.take k ++ [val (k + 1)] := by
      rw [List.take_add_one, h k (by omega)]
      rfl
    rw [e, List.foldl_append, ih]
    rfl
theorem mloop_name : (toString "min" ++ toString ".loop" : String) = "min.loop" := by decide
theorem args_mind (a d : Value) : argsOk "min" ⟨[a], [(Str.ofString "default", d)]⟩ := by unfold argsOk; kernel_rfl
section
variable {pg : Program} {w : World} {A : Around} {R : Result → Shared → Prop} {it : Addr} {fp wr : List Addr} {n : Nat} {P : Nat → Value → Prop} {St : Nat → Heap → Prop} {dk : List (Str × Value)}
theorem mind_loop (W : Walks pg w A.in1 it fp wr n P St) (better : Nat → Nat → Bool) (hc : CmpOf pg w A.in1 .Lt P better) (keep : Addr) (nf : keep ∉ fp) :
    ∀ (left at_ : Nat) (s : Shared) (cur : Value) (cc : Nat), n - (at_ + 1) = left → at_ + 1 ≤ n → St (at_ + 1) s.heap → P (argBest better at_) cur →
    s.heap.get? keep = some { cls := .type "list", dict := none, data := .seq #[cur, cur] cc, slots := #[] } →
    (∀ v h' tk, P (argBest better (n - 1)) v → (∀ b o, b ∉ wr → b ≠ keep → s.heap.get? b = some o → h'.get? b = some o) → R (.ok (.ret v)) { s with heap := h', toks := tk }) →
    codeAny (model pg w) A (.builtin "min.loop" ⟨[.ref it, .none, .ref keep], dk⟩) R s := by
  have nw : keep ∉ wr := fun z => nf (W.sub _ z)
  intro left
  induction left with
  | zero =>
    intro at_ s cur cc e1 e2 st pc hk hR
    have en : at_ + 1 = n := by omega
    refine codeAny_builtin PySem.F.entry_min_loop ?_
    rw [Around.under_plainId PySem.F.plain_min_loop _]
    show wpAny _ A.in1 (seqItems? (.ref keep) >>= _) _ _ s
    refine wpAny_bind (wpAny_seqItems hk rfl ?_)
    show wpAny _ A.in1 (tryCatch (pyNext (.ref it)) _ >>= _) _ _ s
    refine wpAny_bind (wpAny_tryCatch (W.done s _ _ (en ▸ st) fun h' tk old => ?_))
    have hk2 := old keep _ nw hk
    show wpAny _ A.in1 (updateSeq keep (fun _ => #[]) >>= _) _ _ _
    refine wpAny_bind (wpAny_updateSeq hk2 rfl (wpAny_bind (wpAny_letGo (wpAny_pure ?_))))
    exact hR cur _ tk (by rw [← en]; exact pc) fun b o nb nk g => (Heap.get?_update_other _ _ (Ne.symm nk)).trans (old b o nb g)
  | succ left ih =>
    intro at_ s cur cc e1 e2 st pc hk hR
    have lt : at_ + 1 < n := by omega
    refine codeAny_builtin PySem.F.entry_min_loop ?_
    rw [Around.under_plainId PySem.F.plain_min_loop _]
    show wpAny _ A.in1 (seqItems? (.ref keep) >>= _) _ _ s
    refine wpAny_bind (wpAny_seqItems hk rfl ?_)
    show wpAny _ A.in1 (tryCatch (pyNext (.ref it)) _ >>= _) _ _ s
    refine wpAny_bind (wpAny_tryCatch (W.item (at_ + 1) s _ _ lt st fun u h' tk pu st2 old => ?_))
    have hk2 := old keep _ nw hk
    show wpAny _ A.in1 (tryCatch (holding [u, u] (richCompare .Lt u cur >>= _)) _ >>= _) _ _ _
    refine wpAny_bind (wpAny_tryCatch (wpAny_holding (wpAny_bind (hc (at_ + 1) (argBest better at_) u cur _ _ _ pu pc ?_))))
    refine wpAny_bind (wpAny_holding (wpAny_truthy_bool (wpAny_bind (wpAny_letGo (wpAny_pure ?_)))))
    cases hb : better (at_ + 1) (argBest better at_) with
    | true =>
      simp only [if_true]
      refine wpAny_bind (wpAny_updateSeq hk2 rfl (wpAny_bind (wpAny_letGo ?_)))
      rw [mloop_name]
      refine wpAny_pure ⟨plainId_quiet PySem.F.plain_min_loop _, ih (at_ + 1) _ u _ (by omega) lt (W.frame _ _ _ st2 fun b bf o g => ?_) (by simp only [argBest, hb, if_true]; exact pu) (Heap.get?_update_self _ hk2 rfl) fun v h2 t2 pv old2 => ?_⟩
      · exact (Heap.get?_update_other _ _ (fun z : keep = b => nf (by rw [z]; exact bf))).trans g
      · exact hR v h2 t2 pv fun b o nb nk g => old2 b o nb nk ((Heap.get?_update_other _ _ (Ne.symm nk)).trans (old b o nb g))
    | false =>
      simp only [Bool.false_eq_true, if_false]
      refine wpAny_bind (wpAny_letGo ?_)
      rw [mloop_name]
      refine wpAny_pure ⟨plainId_quiet PySem.F.plain_min_loop _, ih (at_ + 1) _ cur cc (by omega) lt st2 (by simp only [argBest, hb, Bool.false_eq_true, if_false]; exact pc) hk2 fun v h2 t2 pv old2 => ?_⟩
      exact hR v h2 t2 pv fun b o nb nk g => old2 b o nb nk (old b o nb g)
theorem mind_first (W : Walks pg w A.in1 it fp wr n P St) (better : Nat → Nat → Bool) (hc : CmpOf pg w A.in1 .Lt P better) (keep : Addr) (nf : keep ∉ fp) (pos : 0 < n) {s : Shared} {cc : Nat} (st : St 0 s.heap)
    (hk : s.heap.get? keep = some { cls := .type "list", dict := none, data := .seq #[] cc, slots := #[] })
    (hR : ∀ v h' tk, P (argBest better (n - 1)) v → (∀ b o, b ∉ wr → b ≠ keep → s.heap.get? b = some o → h'.get? b = some o) → R (.ok (.ret v)) { s with heap := h', toks := tk }) :
    codeAny (model pg w) A (.builtin "min.loop" ⟨[.ref it, .none, .ref keep], dk⟩) R s := by
  have nw : keep ∉ wr := fun z => nf (W.sub _ z)
  refine codeAny_builtin PySem.F.entry_min_loop ?_
  rw [Around.under_plainId PySem.F.plain_min_loop _]
  show wpAny _ A.in1 (seqItems? (.ref keep) >>= _) _ _ s
  refine wpAny_bind (wpAny_seqItems hk rfl ?_)
  show wpAny _ A.in1 (tryCatch (pyNext (.ref it)) _ >>= _) _ _ s
  refine wpAny_bind (wpAny_tryCatch (W.item 0 s _ _ pos st fun u h' tk pu st2 old => ?_))
  have hk2 := old keep _ nw hk
  show wpAny _ A.in1 (updateSeq keep (fun _ => #[u, u]) >>= _) _ _ _
  refine wpAny_bind (wpAny_updateSeq hk2 rfl ?_)
  rw [mloop_name]
  refine wpAny_pure ⟨plainId_quiet PySem.F.plain_min_loop _, mind_loop W better hc keep nf _ 0 _ u _ rfl pos (W.frame _ _ _ st2 fun b bf o g => ?_) pu (Heap.get?_update_self _ hk2 rfl) fun v h2 t2 pv old2 => ?_⟩
  · exact (Heap.get?_update_other _ _ (fun z : keep = b => nf (by rw [z]; exact bf))).trans g
  · exact hR v h2 t2 pv fun b o nb nk g => old2 b o nb nk ((Heap.get?_update_other _ _ (Ne.symm nk)).trans (old b o nb g))
theorem mind_none (W : Walks pg w A.in1 it fp wr 0 P St) (keep : Addr) (nf : keep ∉ fp) {s : Shared} {cc : Nat} {nm : Str} {d : Value} (st : St 0 s.heap)
    (hk : s.heap.get? keep = some { cls := .type "list", dict := none, data := .seq #[] cc, slots := #[] })
    (hR : ∀ h' tk, (∀ b o, b ∉ wr → s.heap.get? b = some o → h'.get? b = some o) → R (.ok (.ret d)) { s with heap := h', toks := tk }) :
    codeAny (model pg w) A (.builtin "min.loop" ⟨[.ref it, .none, .ref keep], [(nm, d)]⟩) R s := by
  refine codeAny_builtin PySem.F.entry_min_loop ?_
  rw [Around.under_plainId PySem.F.plain_min_loop _]
  show wpAny _ A.in1 (seqItems? (.ref keep) >>= _) _ _ s
  refine wpAny_bind (wpAny_seqItems hk rfl ?_)
  show wpAny _ A.in1 (tryCatch (pyNext (.ref it)) _ >>= _) _ _ s
  refine wpAny_bind (wpAny_tryCatch (W.done s _ _ st fun h' tk old => ?_))
  show wpAny _ A.in1 (rule _ >>= _) _ _ _
  exact wpAny_bind (wpAny_rule (wpAny_pure (hR h' tk fun b o nb g => old b o nb g)))
end
section
variable {pg : Program} {w : World} {A : Around} {E : Value → Shared → Prop} {s : Shared} {l : Addr} {xs : Array (Int × Tok)} {ns : List Int}
theorem mind_items {Q : Value → Shared → Prop} (hh : A.handled = none) (hl : s.heap.IsList l (intItems xs))
    (h : ∀ v h' tk, (if xs.size = 0 then v = Value.none else ∃ t, v = .int (minTo (numAt xs) (xs.size - 1)) t) → (∀ b o, s.heap.get? b = some o → h'.get? b = some o) → Q v { s with heap := h', toks := tk }) :
    wpAny (model pg w) A (call (.builtin "min") [.ref l] [(Str.ofString "default", .none)]) Q E s := by
  refine kmk_tree PySem.F.kind_min PySem.F.plain_min PySem.F.entry_min (args_mind _ _) ?_
  show wpAny _ A.in1 (Builtin.Builtins.bindParams "min" ["key", "default"] 0 ⟨[], [(Str.ofString "default", Value.none)]⟩ >>= _) _ _ s
  refine wpAny_bind (wpAny_of_eq (show Builtin.Builtins.bindParams "min" ["key", "default"] 0 ⟨[], [(Str.ofString "default", Value.none)]⟩ = pure [none, some Value.none] from by kernel_rfl) ?_)
  refine wpAny_bind (wpAny_pure ?_)
  refine wpAny_bind (iter_intList hl fun s₂ e st hfp hlI => ?_)
  subst e
  refine wpAny_bind (wpAny_newObj_type ?_)
  rw [mloop_name]
  have W := Walks.list (prog := pg) (w := w) (A := A.in1) hh s.heap.objs.size l hlI (intItems xs)
  have nf : (s.heap.push { cls := .type "list_iterator", data := .fields #[.ref l, .int 0 0] }).objs.size ∉ [s.heap.objs.size, l] := fun hm => Nat.lt_irrefl _ (hfp _ hm)
  have sz : (intItems xs).size = xs.size := by simp [intItems]
  by_cases z : xs.size = 0
  · have z2 : (intItems xs).size = 0 := by omega
    rw [z2] at W
    refine wpAny_pure ⟨plainId_quiet PySem.F.plain_min_loop _, mind_none W _ nf (W.frame _ _ _ st fun b _ o e => Heap.get?_push_of_some _ e) (Heap.get?_push_size _ rfl) fun h' tk old => ?_⟩
    exact h .none h' tk (by rw [if_pos z]) (fun b o g => old_kept (fun b o nb g => old b o nb (Heap.get?_push_of_some _ g)) b o g)
  · refine wpAny_pure ⟨plainId_quiet PySem.F.plain_min_loop _, mind_first W _ (CmpOf.ints_lt (numAt xs) fun _ _ => intItems_at) _ nf (by omega) (W.frame _ _ _ st fun b _ o e => Heap.get?_push_of_some _ e) (Heap.get?_push_size _ rfl) fun v h' tk pv old => ?_⟩
    obtain ⟨t, rfl⟩ := intItems_at pv
    refine h _ h' tk ?_ (fun b o g => old_kept (fun b o nb g => old b o nb (Nat.ne_of_lt (Heap.lt_size g)) (Heap.get?_push_of_some _ g)) b o g)
    rw [if_neg z]
    have mb := minTo_best (numAt xs) (xs.size - 1)
    exact ⟨t, by rw [sz, mb]⟩
theorem mind_raw {its : List Value} {Q : Value → Shared → Prop} (hh : A.handled = none) (hl : s.heap.IsList l its.toArray) (hi : IntsAre its ns)
    (h : ∀ v h' tk, MinV ns v → (∀ b o, s.heap.get? b = some o → h'.get? b = some o) → Q v { s with heap := h', toks := tk }) : wpAny (model pg w) A (call (.builtin "min") [.ref l] [(Str.ofString "default", .none)]) Q E s := by
  obtain ⟨xs, e⟩ := hi.allInts.items
  have hn : numsOf (intItems xs).toList = ns := by rw [← e]; exact hi.numsOf
  rw [nums_intItems] at hn
  subst hn
  rw [e] at hl
  refine mind_items hh hl fun v h' tk hv hk => h v h' tk ?_ hk
  unfold MinV minI
  have lx : (xs.toList.map (·.1)).length = xs.size := by simp
  cases hx : xs.toList.map (·.1) with
  | nil =>
    rw [hx] at lx
    rw [if_pos (by simpa using lx.symm)] at hv
    exact hv
  | cons a r =>
    rw [hx] at lx
    simp only [List.length_cons] at lx
    rw [if_neg (by omega)] at hv
    obtain ⟨t, rfl⟩ := hv
    refine ⟨t, ?_⟩
    have at_ : ∀ i, i < xs.size → (a :: r)[i]? = some (numAt xs i) := fun i hi => by
      rw [← hx, List.getElem?_map]
      unfold numAt
      rw [Array.getElem?_toList, Array.getElem?_eq_getElem hi]
      rfl
    have a0 : a = numAt xs 0 := by
      have := at_ 0 (by omega)
      simpa using this
    have fm := foldl_min (numAt xs) r r.length (Nat.le_refl _) fun i hi => by
      have := at_ (i + 1) (by omega)
      simpa using this
    rw [List.take_length] at fm
    have rl : xs.size - 1 = r.length := by omega
    rw [a0, fm, rl]
end
def rMinD (K : PySem.W.Frag) : List V → List V → Hp → VK → Prop := fun vs zs H Q => ∃ (a : Addr) (ns : List Int), vs = [V.ref a] ∧ zs = [V.non] ∧ SqL K H a (ns.map V.int) ∧ Q (match minI ns with | none => .non | some m => .int m) H
theorem cr_minD {X : Cx} (hc : X.calm = true) : CallRK X (.builtin "min") [Str.ofString "default"] (rMinD X.K) := by
  intro pins s σ H vs zs us ws Q I r rz h
  obtain ⟨a, ns, rfl, rfl, hs, q⟩ := h
  obtain rfl := Vals.ref1 r
  obtain ⟨w1, rfl, e1⟩ := vals1 rz
  obtain rfl : w1 = Value.none := e1
  obtain ⟨its, rv, hl, _⟩ := I.list hs
  refine mind_raw (I.ok.hd hc) hl.isList rv.ints fun v h' tk hv hk => ?_
  unfold MinV at hv
  cases hm : minI ns with
  | none =>
    rw [hm] at hv q
    exact ⟨.non, H, I.kept hk, hv, q⟩
  | some m =>
    rw [hm] at hv q
    exact ⟨.int m, H, I.kept hk, hv, q⟩
def tMinD (K : PySem.W.Frag) (ta : TE) : TE := tCKw (rMinD K) (tCons ta tNil) (tCons (tC .non) tNil)
theorem pe_minD {X : Cx} {a : Expr} {ta : TE} {j : Nat} {p cp kp pos : Pos} (hc : X.calm = true) (hg : Gl X "min") (hm : X.mg "min" = none) (ha : PE X a ta)
    (na : starEach [a] X.env = (false, eval a X.env) :: starEach [] X.env := by rfl) : PE X (.Call (.Name "min" p) [a] [⟨some "default", .Constant .none j cp, kp⟩] pos) (tMinD X.K ta) :=
  pe_callBK (cr_minD hc) hg hm (by decide +kernel) (pa_cons ha pa_nil na) (pk_cons pe_non pk_nil) (by decide) (by decide) (by rw [na]; rfl) (by rw [na]; rfl) rfl rfl rfl
end Dv
namespace Dv
open PySem PySem.Spec PyProof.Rows L2
/-! ### the inner language: expressions, statements -/
inductive BOp where | add | sub | mul | fdiv | mod
inductive COp where | eq | ne | lt | le | gt | ge | isin | notin | isN | notN
inductive Bi where | len | int1 | sum | any | all | max2 | min2 | abs | list1
inductive Bm where | join | index | startswith | sindex
inductive Mu where | append | extend | pop | popAt | clear
inductive Wk where | keys | items | vals
inductive E where
  | var (i : Nat)
  | cst (v : V)
  | bin (o : BOp) (a b : E)
  | cmp (o : COp) (a b : E)
  | nt (a : E) | neg (a : E)
  | and_ (a b : E) | or_ (a b : E)
  /-- a and b as a value, by truth -/
  | andT (a b : E)
  | ite (c a b : E)
  | nil | cons (a r : E)
  | lst (as : E) | tup (as : E) | dnew
  | idx (a b : E)
  | sl (a lo hi : E)
  | nopart
  | bi (f : Bi) (as : E)
  | isi (a : E) (t : String)
  /-- list(d.keys()) -/
  | keysL (a : E)
  /-- len(set(a)), a a list of texts -/
  | lenSet (a : E)
  /-- min(a, default=None), a a list of whole numbers -/
  | minD (a : E)
  /-- {k: v, ..}, written texts -/
  | dsp (ks : List (Str × Str))
  /-- a.replace(y, z), y and z written -/
  | rep (a : E) (y z : Str)
  /-- a.partition(b) -/
  | partn (a b : E)
  /-- a[::-1] -/
  | revL (a : E)
  | bm (m : Bm) (o as : E)
  | get1 (o k : E) | get2 (o k x : E)
  | mut (m : Mu) (i : Nat) (as : E)
  /-- of any expression's list: read, not evaluated -/
  | mutE (m : Mu) (o as : E)
  | call (f : Nat) (as : E)
  /-- an attribute of an object of one of the classes -/
  | fld (cs : List Nat) (o : E) (f : Str)
  /-- a new object of a class, made by the def f -/
  | new (c f : Nat) (as : E)
  /-- a method by the object's class -/
  | meth (m : Str) (tbl : List (Nat × Nat)) (o as : E)
  | comp (vs : List Nat) (it : E) (tg : List Nat) (c e : E)
  /-- over a name's own list -/
  | compV (vs : List Nat) (i : Nat) (tg : List Nat) (c e : E)
  /-- over a name's dict -/
  | compW (w : Wk) (vs : List Nat) (i : Nat) (tg : List Nat) (c e : E)
  /-- what is walked: a list, a tuple, a range, enumerate -/
  | itL (e : E) | itT (e : E) | itRev (as : E) | itR1 (as : E) | itR2 (as : E) | itE (as : E)
  /-- a text, sign by sign -/
  | itS (e : E)
inductive S where
  | skip
  | seq (a b : S)
  | set (i : Nat) (e : E)
  /-- what is set is shared from now on -/
  | setk (i : Nat) (e : E)
  | unp (tg : List Nat) (e : E)
  /-- a, b = x, y, both written: no tuple is made -/
  | par (tg : List Nat) (as : E)
  | setI (o i e : E)
  | aug (i : Nat) (o : BOp) (e : E)
  /-- an attribute of a name's own object -/
  | setF (i : Nat) (cs : List Nat) (f : Str) (e : E)
  | augF (i : Nat) (cs : List Nat) (f : Str) (e : E)
  | ex (e : E)
  | ret (e : E) | retN
  | ite (c : E) (a b : S)
  | for_ (it : E) (tg : List Nat) (b : S)
  /-- over a name's own list -/
  | forV (i : Nat) (tg : List Nat) (b : S)
  /-- over a name's dict -/
  | forW (w : Wk) (i : Nat) (tg : List Nat) (b : S)
  | whl (c : E) (b : S)
  /-- a block, and what spoils its news; ws: the names it sets -/
  | scope (ws : List Nat) (b u : S)
  | brk | cnt
  | never
  /-- raise C(e), C an exception class of the text whose field is f -/
  | raise (c : Nat) (f : Str) (e : E)
/-! ### operators by values -/
def rAddA : R2 := fun x y H Q => (rI0 fun i j => .int (i + j)) x y H Q ∨ (fun x y H Q => ∃ i j, x = V.str i ∧ y = V.str j ∧ i.length + j.length ≤ sizeLine ∧ Q (.str (i ++ j)) H) x y H Q ∨ rCat x y H Q
def rMulA : R2 := fun x y H Q => (rI CMul fun i j => .int (i * j)) x y H Q ∨ rRep x y H Q
def rB : BOp → R2
  | .add => rAddA
  | .sub => rI0 fun i j => .int (i - j)
  | .mul => rMulA
  | .fdiv => rI CDivW fun i j => .int (i / j)
  | .mod => rI (fun _ j => 0 < j) fun i j => .int (i % j)
def bOp : BOp → Operator
  | .add => .Add | .sub => .Sub | .mul => .Mult | .fdiv => .FloorDiv | .mod => .Mod
theorem op_B {X : Cx} : ∀ o : BOp, OpR X (binaryOp (bOp o)) (rB o)
  | .add => op_add.or (op_add_str.or op_cat)
  | .sub => op_sub
  | .mul => op_mul.or op_rep
  | .fdiv => op_fdivW
  | .mod => op_mod
/-- == of data at any depth to 200 -/
def rEqG (K : PySem.W.Frag) : R2 := fun x y H Q => ∃ d e, Dp K H x d ∧ Dp K H y e ∧ PyData.canLay0 d = true ∧ PyData.canLay0 e = true ∧ d.depth ≤ 200 ∧ Q (.bl (PyData.eqv d e)) H
def rNeG (K : PySem.W.Frag) : R2 := fun x y H Q => ∃ d e, Dp K H x d ∧ Dp K H y e ∧ PyData.canLay0 d = true ∧ PyData.canLay0 e = true ∧ d.depth ≤ 200 ∧ Q (.bl (!PyData.eqv d e)) H
theorem op_eqG {X : Cx} (hu : X.A.units + 200 < cLine) : OpR X (compareOp .Eq) (rEqG X.K) := by
  intro pins s σ H x y v u Q I rx ry h
  obtain ⟨d, e, hd, he, sd, se, dp, q⟩ := h
  obtain ⟨as, r1⟩ := Dp.reads I d x v hd rx
  obtain ⟨bs, r2⟩ := Dp.reads I e y u he ry
  exact SeqAt.compareEq_reads r1 r2 sd se (by have := Nat.min_le_left d.depth e.depth; omega) ⟨.bl _, H, I, rfl, q⟩
theorem op_neG {X : Cx} (hu : X.A.units + 200 < cLine) : OpR X (compareOp .NotEq) (rNeG X.K) := by
  intro pins s σ H x y v u Q I rx ry h
  obtain ⟨d, e, hd, he, sd, se, dp, q⟩ := h
  obtain ⟨as, r1⟩ := Dp.reads I d x v hd rx
  obtain ⟨bs, r2⟩ := Dp.reads I e y u he ry
  exact SeqAt.compareNe_reads r1 r2 sd se (by have := Nat.min_le_left d.depth e.depth; omega) ⟨.bl _, H, I, rfl, q⟩
def rDin : R2 := fun y x H Q => ∃ a o, x = .ref a ∧ DGet H a y o ∧ Q (.bl o.isSome) H
def rDnot : R2 := fun y x H Q => ∃ a o, x = .ref a ∧ DGet H a y o ∧ Q (.bl (!o.isSome)) H
theorem op_dinR {X : Cx} (hu : X.A.units + 1 < cLine) : OpR X (compareOp .In) rDin := by
  intro pins s σ H x y v u Q I rx ry h
  obtain ⟨a, o, rfl, g, q⟩ := h
  cases ry
  exact d_in hu I g rx fun s' I' => ⟨.bl _, H, I', rfl, q⟩
theorem op_dnotR {X : Cx} (hu : X.A.units + 1 < cLine) : OpR X (compareOp .NotIn) rDnot := by
  intro pins s σ H x y v u Q I rx ry h
  obtain ⟨a, o, rfl, g, q⟩ := h
  cases ry
  exact d_notIn hu I g rx fun s' I' => ⟨.bl _, H, I', rfl, q⟩
def rIsN : R2 := fun x y H Q => y = .non ∧ Q (.bl (decide (x = .non))) H
def rNotN : R2 := fun x y H Q => y = .non ∧ Q (.bl (!decide (x = .non))) H
def rLtS : R2 := fun x y H Q => ∃ i j, x = V.str i ∧ y = V.str j ∧ Q (.bl (decide (i.cps.toList < j.cps.toList))) H
def rInS : R2 := fun x y H Q => ∃ (c : Nat) (z : Str), x = .str ⟨#[c]⟩ ∧ y = .str z ∧ Q (.bl (decide (c ∈ z.cps.toList))) H
def rNotInS : R2 := fun x y H Q => ∃ (c : Nat) (z : Str), x = .str ⟨#[c]⟩ ∧ y = .str z ∧ Q (.bl (!decide (c ∈ z.cps.toList))) H
def rC (K : PySem.W.Frag) : COp → R2
  | .eq => fun x y H Q => rEq x y H Q ∨ rEqG K x y H Q
  | .ne => fun x y H Q => rNe x y H Q ∨ rNeG K x y H Q
  | .lt => fun x y H Q => (rI0 fun i j => .bl (decide (i < j))) x y H Q ∨ rLtS x y H Q
  | .le => rI0 fun i j => .bl (decide (i ≤ j))
  | .gt => rI0 fun i j => .bl (decide (j < i))
  | .ge => rI0 fun i j => .bl (decide (j ≤ i))
  | .isin => fun x y H Q => rIn K false x y H Q ∨ rDin x y H Q ∨ rInD K x y H Q ∨ rInS x y H Q
  | .notin => fun x y H Q => rIn K true x y H Q ∨ rDnot x y H Q ∨ rNotInD K x y H Q ∨ rNotInS x y H Q
  | .isN => rIsN
  | .notN => rNotN
def cOp : COp → CmpOp
  | .eq => .Eq | .ne => .NotEq | .lt => .Lt | .le => .LtE | .gt => .Gt | .ge => .GtE | .isin => .In | .notin => .NotIn | .isN => .Is | .notN => .IsNot
theorem op_C {X : Cx} {k : Nat} (hr : Room k X.A) : ∀ o : COp, OpR X (compareOp (cOp o)) (rC X.K o)
  | .eq => op_eq.or (op_eqG (by have := hr.un; omega))
  | .ne => op_ne.or (op_neG (by have := hr.un; omega))
  | .lt => op_lt.or op_lt_str
  | .le => op_le
  | .gt => op_gt
  | .ge => op_ge
  | .isin => op_in_seq.or ((op_dinR (by have := hr.un; omega)).or ((op_inD (by have := hr.un; omega)).or op_in_sign))
  | .notin => op_notIn_seq.or ((op_dnotR (by have := hr.un; omega)).or ((op_notInD (by have := hr.un; omega)).or op_notIn_sign))
  | .isN => op_isN
  | .notN => op_notN
def rIxD : R2 := fun x y H Q => ∃ a v, x = .ref a ∧ DGet H a y (some v) ∧ Q v H
theorem ix_dict {X : Cx} (hu : X.A.units + 1 < cLine) : IxR X rIxD := by
  intro value slice pins s σ H x y v u Q I rx ry h hs
  obtain ⟨a, z, rfl, g, q⟩ := h
  cases rx
  have hT := dict_typeIs I g
  unfold subscriptTail
  refine wpAny_bind ?_
  rw [getitemInPython_of_ne hT.not_modules]
  refine wpAny_bind (wpAny_specialOf hT PySem.F.slot_dict_getitem.lookup ?_)
  have fin : wpAny (model X.prog X.w) X.A (subscripted slice false (.ref a) u) (fun r s₃ => wpAny (model X.prog X.w) X.A (letTemporaryGo value (.ref a) r >>= fun _ => pure r) (EP X pins σ Q) X.xe s₃) X.xe s := by
    rw [hs]
    exact wpAny_operating (d_getItem hu I g ry fun w' s' I' r' => wpAny_bind (wpAny_letTemporaryGo (wpAny_pure ⟨z, H, I', r', q⟩)))
  first
    | exact wpAny_pure (wpAny_bind fin)
    | exact wpAny_bind (wpAny_pure (wpAny_bind fin))
    | exact wpAny_bind fin
def rIdx (K : PySem.W.Frag) : R2 := fun x y H Q => rIx K x y H Q ∨ rIxD x y H Q
theorem ix_all {X : Cx} {k : Nat} (hr : Room k X.A) : IxR X (rIdx X.K) := ix_seq.or (ix_dict (by have := hr.un; omega))
def rSlA (K : PySem.W.Frag) : V → Option Int → Option Int → Hp → VK → Prop := fun x lo hi H Q => rSlL K x lo hi H Q ∨ rSlS x lo hi H Q
theorem sl_all {X : Cx} : SlR X (rSlA X.K) := sl_list.or sl_str
def rSetD : TSet := fun o i v H Q => ∃ a H', o = .ref a ∧ DPut H a i v H' ∧ Q H'
theorem set_dict {X : Cx} (hu : X.A.units + 1 < cLine) : PSet X rSetD := by
  intro pins s σ H o i v ov iv vv Q I ro ri rv h
  obtain ⟨a, H', rfl, g, q⟩ := h
  cases ro
  exact d_setItem hu I g ri rv fun s' I' => ⟨H', I', q⟩
def rSetA : TSet := fun o i v H Q => rSetL o i v H Q ∨ rSetD o i v H Q
theorem set_all {X : Cx} {k : Nat} (hr : Room k X.A) : PSet X rSetA := by
  intro pins s σ H o i v ov iv vv Q I ro ri rv h
  rcases h with h | h
  · exact set_list pins s σ H o i v ov iv vv Q I ro ri rv h
  · exact set_dict (by have := hr.un; omega) pins s σ H o i v ov iv vv Q I ro ri rv h
theorem call_lenR {X : Cx} : CallR X (.builtin "len") (fun xs H Q => ∃ a kvs, xs = [V.ref a] ∧ Rd H a (.dK kvs) ∧ Q (.int kvs.length) H) := by
  intro pins s σ H xs us Q I r h
  obtain ⟨a, kvs, rfl, ha, q⟩ := h
  obtain ⟨u, rfl, ru⟩ := vals1 r
  cases ru
  exact d_len I ha fun t s' I' => ⟨.int kvs.length, H, I', ⟨t, rfl⟩, q⟩
/-- isinstance of a dict that is walked, too -/
def rIsi2 (K : PySem.W.Frag) : List V → Hp → VK → Prop := fun xs H Q => rIsi K xs H Q ∨ ∃ (a : Addr) (kvs : List (Key × V)) (c : V) (u : Value) (b : Bool), xs = [.ref a, c] ∧ ClsV c u ∧ Rd H a (.dK kvs) ∧ PySem.W.kitOne K (.type "dict") u = some b ∧ Q (.bl b) H
theorem call_isi2 {X : Cx} : CallR X (.builtin "isinstance") (rIsi2 X.K) := by
  refine CallR.or call_isi ?_
  intro pins s σ H xs us Q I r h
  obtain ⟨a, kvs, c, u, b, rfl, k, m, e, q⟩ := h
  obtain ⟨u1, u2, rfl, r1, r2⟩ := vals2 r
  have e2 := k.eq r2
  subst e2
  cases (show u1 = Value.ref a from r1)
  obtain ⟨_, _, vs, _, o, es, ep, h1, h2, _⟩ := dk_rd I.hok m
  exact PySem.W.kia_one PySem.W.kitx_dict I.kIn ⟨o, h1, h2.1⟩ e (fun z => nomatch z) fun tk => ⟨.bl b, H, I.tok tk, rfl, q⟩
def rBi (K : PySem.W.Frag) : Bi → List V → Hp → VK → Prop
  | .len => fun xs H Q => (∃ x n, xs = [x] ∧ LenV K x H n ∧ Q (.int n) H) ∨ ∃ a kvs, xs = [V.ref a] ∧ Rd H a (.dK kvs) ∧ Q (.int kvs.length) H
  | .int1 => fun xs H Q => (∃ i, xs = [.int i] ∧ Q (.int i) H) ∨ ∃ k, xs = [.bl k] ∧ Q (.int (if k then 1 else 0)) H
  | .sum => rSum K
  | .any => rAny K
  | .all => rAll K
  | .max2 => fun xs H Q => ∃ i j, xs = [.int i, .int j] ∧ Q (.int (if j > i then j else i)) H
  | .min2 => fun xs H Q => ∃ i j, xs = [.int i, .int j] ∧ Q (.int (if j < i then j else i)) H
  | .abs => fun xs H Q => ∃ i, xs = [.int i] ∧ Q (.int (if i < 0 then -i else i)) H
  | .list1 => fun xs H Q => ∃ p ys, xs = [.ref p] ∧ (SqL K H p ys ∨ SqT K H p ys) ∧ ∀ l, H l = none → Q (.ref l) (upd H l (.lst ys))
def nBi : Bi → Str
  | .len => "len" | .int1 => "int" | .sum => "sum" | .any => "any" | .all => "all" | .max2 => "max" | .min2 => "min" | .abs => "abs" | .list1 => "list"
def vBi : Bi → Value
  | .len => .builtin "len" | .int1 => .type "int" | .sum => .builtin "sum" | .any => .builtin "any" | .all => .builtin "all" | .max2 => .builtin "max" | .min2 => .builtin "min" | .abs => .builtin "abs" | .list1 => .type "list"
theorem cr_Bi {X : Cx} (hc : X.calm = true) : ∀ f : Bi, CallR X (vBi f) (rBi X.K f)
  | .len => call_len.or call_lenR
  | .int1 => call_int1
  | .sum => cr_sum hc
  | .any => cr_any hc
  | .all => cr_all hc
  | .max2 => call_max2 hc
  | .min2 => call_min2 hc
  | .abs => call_abs
  | .list1 => call_list_of
def rBm (K : PySem.W.Frag) : Bm → V → List V → Hp → VK → Prop
  | .join => fun x xs H Q => ∃ a p, ∃ ys : List Str, x = .str a ∧ xs = [.ref p] ∧ (SqL K H p (ys.map V.str) ∨ SqT K H p (ys.map V.str)) ∧ (ys.map (·.length)).sum + ys.length * a.length ≤ 16777216 ∧ Q (.str (Txt.join a ys)) H
  | .index => rIndex K
  | .startswith => fun x xs H Q => ∃ a b, x = .str a ∧ xs = [.str b] ∧ Q (.bl (Txt.startswith a b)) H
  | .sindex => fun x xs H Q => ∃ a b i rest, x = .str a ∧ xs = [.str b] ∧ Builtin.Str.occurrences a b 0 a.length 1 = i :: rest ∧ Q (.int (i : Nat)) H
def tyBm : Bm → String
  | .join => "str" | .index => "list" | .startswith => "str" | .sindex => "str"
def rMu : Mu → V → List V → Hp → VK → Prop
  | .append => rAppend | .extend => rExtend | .pop => rPop | .popAt => rPopAt | .clear => rClear
/-! ### readings -/
def gNames : List Nat → TGs
  | [] => gNil
  | i :: r => gCons (gName i) (gNames r)
def trG (K : PySem.W.Frag) : List Nat → TG
  | [i] => gName i
  | is => gTup K is.length (gNames is)
def tTru (K : PySem.W.Frag) (ta : TE) : TT := fun σ H Q => ta σ H fun x H' => ∃ k, TruV K x H' k ∧ Q k H'
/-- the readings of a piece: as an expression, as arguments, as a test, as a part of a slice, as what is walked -/
structure Rdg where
  e : TE
  a : TA
  t : TT
  o : TO
  i : TI
def mk (K : PySem.W.Frag) (te : TE) : Rdg := ⟨te, fun _ _ _ => False, tTru K te, tPart te, fun _ _ _ => False⟩
def mkT (te : TE) (tt : TT) : Rdg := ⟨te, fun _ _ _ => False, tt, tPart te, fun _ _ _ => False⟩
def mkA (ta : TA) : Rdg := ⟨fun _ _ _ => False, ta, fun _ _ _ => False, fun _ _ _ => False, fun _ _ _ => False⟩
def mkI (ti : TI) : Rdg := ⟨fun _ _ _ => False, fun _ _ _ => False, fun _ _ _ => False, fun _ _ _ => False, ti⟩
/-- the promises, the classes' addresses, what is wished of an exception -/
structure Pm where
  sp : Nat → Sp
  cc : Nat → Addr
  xk : XK
instance : CoeFun Pm (fun _ => Nat → Sp) := ⟨Pm.sp⟩
def Pm.at (Φ : Pm) (E : XK) : Pm := ⟨Φ.sp, Φ.cc, E⟩
/-- raise C(e) -/
def spIni (C : Addr) (f : Str) : Sp := fun vs H Q _ => ∃ (a : Addr) (v : V), vs = [.ref a, v] ∧ H a = some (exo a C none) ∧ ∀ d, H d = none → d ≠ a → Q .non (upd (upd H d (exd d [(f, v)])) a (exo a C (some d)))
def sRaise (Φ : Pm) (c : Nat) (f : Str) (te : TE) : TS := fun _ σ H => tMkO (Φ.cc c) (spIni (Φ.cc c) f) [] (tCons te tNil) σ H fun cls d H' => Φ.xk cls d H'
/-- o.f, o of one of the classes -/
def tFldC (cc : Nat → Addr) (cs : List Nat) (ta : TE) (f : Str) : TE := fun σ H Q => ta σ H fun x H1 => ∃ a c dx fs v, x = .ref a ∧ H1 a = some (.ins (cc c) dx fs) ∧ c ∈ cs ∧ fs.lookup f = some v ∧ Q v H1
/-- o.m(..) by o's class -/
def tMethD (Φ : Pm) (m : Str) (tbl : List (Nat × Nat)) (ta : TE) (t : TA) : TE := fun σ H Q => ta σ H fun x H1 => ∃ a c dx fs f, x = .ref a ∧ H1 a = some (.ins (Φ.cc c) dx fs) ∧ (c, f) ∈ tbl ∧ fs.lookup m = none ∧
  t σ H1 fun vs H2 => Φ.sp f (x :: vs) H2 Q Φ.xk
/-- o.f = value -/
def sFldC (cc : Nat → Addr) (cs : List Nat) (ta tv : TE) (f : Str) : TS := fun D σ H => tv σ H fun y H1 => ta σ H1 fun x H2 => ∃ a c dx fs, x = .ref a ∧ H2 a = some (.ins (cc c) dx fs) ∧ c ∈ cs ∧ fs.length < 1000 ∧
  D.nx σ (upd H2 a (.ins (cc c) dx (putF f y fs)))
/-- o.f += value, whole numbers -/
def sFldAugC (cc : Nat → Addr) (cs : List Nat) (ta tv : TE) (f : Str) : TS := fun D σ H => ta σ H fun x H1 => ∃ a c dx fs v, x = .ref a ∧ H1 a = some (.ins (cc c) dx fs) ∧ c ∈ cs ∧ fs.lookup f = some v ∧
  tv σ H1 fun y H2 => rAdd v y H2 fun z H3 => ∃ c' dx' fs', H3 a = some (.ins (cc c') dx' fs') ∧ c' ∈ cs ∧ fs'.length < 1000 ∧ D.nx σ (upd H3 a (.ins (cc c') dx' (putF f z fs')))
def iWk : Wk → TE → TI
  | .keys => iKeys | .items => iItems | .vals => iVals
/-- a dict walked: locked, if it isn't yet -/
def tWalkE (t : TE) : TE := fun σ H Q => tLockE t σ H Q ∨ t σ H Q
def tWalkS (t : TS) : TS := fun D σ H => tLock t D σ H ∨ t D σ H
theorem pe_walk {X : Cx} {e : Expr} {t : TE} (h : PE X e t) : PE X e (tWalkE t) :=
  ⟨fun pins s σ H Q I hq => hq.elim ((pe_lock h).run pins s σ H Q I) (h.run pins s σ H Q I)⟩
theorem ps_walk {X : Cx} {st : Stmt} {t : TS} (h : PS X st t) : PS X st (tWalkS t) :=
  ⟨fun pins s σ H D I hq => hq.elim ((ps_lock h).run pins s σ H D I) (h.run pins s σ H D I)⟩
/-- a.partition(b) -/
def tPartn (to te : TE) : TE := tM1 (fun x xs H Q => ∃ a b, x = .str a ∧ xs = [.str b] ∧ (b.length == 0) = false ∧ a.length ≤ sizeLine ∧
  ∀ p, H p = none → Q (.ref p) (upd H p (.tup [.str (Txt.partition a b).1, .str (Txt.partition a b).2.1, .str (Txt.partition a b).2.2]))) to te
def tr (K : PySem.W.Frag) : Pm → E → Rdg
  | Φ, .var i => mk K (tVar i)
  | Φ, .cst v => mk K (tC v)
  | Φ, .bin o a b => mk K (tOp (rB o) (tr K Φ a).e (tr K Φ b).e)
  | Φ, .cmp o a b => mkT (tOp (rC K o) (tr K Φ a).e (tr K Φ b).e) (tTest (tOp (rC K o) (tr K Φ a).e (tr K Φ b).e))
  | Φ, .nt a => mkT (tNotV (tr K Φ a).e) (tNot (tr K Φ a).t)
  | Φ, .neg a => mk K (tUn (rU fun i => .int (-i)) (tr K Φ a).e)
  | Φ, .and_ a b => mkT (tAndV (tr K Φ a).e (tr K Φ b).e) (tAnd (tr K Φ a).t (tr K Φ b).t)
  | Φ, .or_ a b => mkT (tOrV (tr K Φ a).e (tr K Φ b).e) (tOr (tr K Φ a).t (tr K Φ b).t)
  | Φ, .andT a b => mk K (tAndT K (tr K Φ a).e (tr K Φ b).e)
  | Φ, .ite c a b => mk K (tIf (tr K Φ c).t (tr K Φ a).e (tr K Φ b).e)
  | Φ, .nil => mkA tNil
  | Φ, .cons a r => mkA (tCons (tr K Φ a).e (tr K Φ r).a)
  | Φ, .lst as => mk K (tLst (tr K Φ as).a)
  | Φ, .tup as => mk K (tTup (tr K Φ as).a)
  | Φ, .dnew => mk K tDNewK
  | Φ, .idx a b => mk K (tOp (rIdx K) (tr K Φ a).e (tr K Φ b).e)
  | Φ, .sl a lo hi => mk K (tSl (rSlA K) (tr K Φ a).e (tr K Φ lo).o (tr K Φ hi).o)
  | Φ, .nopart => ⟨fun _ _ _ => False, fun _ _ _ => False, tYes, tNoPart, fun _ _ _ => False⟩
  | Φ, .bi f as => mk K (tCB (rBi K f) (tr K Φ as).a)
  | Φ, .isi a t => mk K (tCB (rIsi2 K) (tCons (tr K Φ a).e (tCons (tC (.ty t)) tNil)))
  | Φ, .keysL a => mk K (tListKeys (tr K Φ a).e)
  | Φ, .lenSet a => mk K (tLenSetT K (tr K Φ a).e)
  | Φ, .minD a => mk K (tMinD K (tr K Φ a).e)
  | Φ, .dsp ks => mk K (tDisp (ks.map fun q => (tC (.str q.1), tC (.str q.2))))
  | Φ, .rep a y z => mk K (CwR.tReplC (tr K Φ a).e y z)
  | Φ, .partn a b => mk K (tPartn (tr K Φ a).e (tr K Φ b).e)
  | Φ, .revL a => mk K (tRevL K (tr K Φ a).e)
  | Φ, .bm m o as => mk K (tBM K (tyBm m) (rBm K m) (tr K Φ o).e (tr K Φ as).a)
  | Φ, .get1 o k => mk K (tDGet1 (tr K Φ o).e (tr K Φ k).e)
  | Φ, .get2 o k x => mk K (tDGet2 (tr K Φ o).e (tr K Φ k).e (tr K Φ x).e)
  | Φ, .mut m i as => mk K (tBM K "list" (rMu m) (tVar i) (tr K Φ as).a)
  | Φ, .mutE m o as => mk K (tBM K "list" (rMu m) (tr K Φ o).e (tr K Φ as).a)
  | Φ, .call f as => mk K (tCall (Φ f) [] Φ.xk (tr K Φ as).a)
  | Φ, .fld cs o f => mk K (tFldC Φ.cc cs (tr K Φ o).e f)
  | Φ, .new c f as => mk K (tMake (Φ.cc c) (Φ f) [] Φ.xk (tr K Φ as).a)
  | Φ, .meth m tbl o as => mk K (tMethD Φ m tbl (tr K Φ o).e (tr K Φ as).a)
  | Φ, .comp vs it tg c e => mk K (tLc (tr K Φ it).i (trG K tg) (tr K (Φ.at E0) c).t (tr K (Φ.at E0) e).e vs)
  | Φ, .compV vs i tg c e => mk K (tLc (iList K (tVar i)) (trG K tg) (tr K (Φ.at E0) c).t (tr K (Φ.at E0) e).e vs)
  | Φ, .compW w vs i tg c e => mk K (tWalkE (tLc (iWk w (tVar i)) (trG K tg) (tr K (Φ.at E0) c).t (tr K (Φ.at E0) e).e vs))
  | Φ, .itL e => mkI (iList K (tr K Φ e).e)
  | Φ, .itT e => mkI (iTup K (tr K Φ e).e)
  | Φ, .itRev as => mkI (iRev K (tr K Φ as).a)
  | Φ, .itR1 as => mkI (iRng1 (tr K Φ as).a)
  | Φ, .itR2 as => mkI (iRng2 (tr K Φ as).a)
  | Φ, .itE as => mkI (iEnum K (tr K Φ as).a)
  | Φ, .itS e => mkI (iStr (tr K Φ e).e)
abbrev trE (K : PySem.W.Frag) (Φ : Pm) (c : E) : TE := (tr K Φ c).e
abbrev trA (K : PySem.W.Frag) (Φ : Pm) (c : E) : TA := (tr K Φ c).a
abbrev trT (K : PySem.W.Frag) (Φ : Pm) (c : E) : TT := (tr K Φ c).t
abbrev trO (K : PySem.W.Frag) (Φ : Pm) (c : E) : TO := (tr K Φ c).o
abbrev trI (K : PySem.W.Frag) (Φ : Pm) (c : E) : TI := (tr K Φ c).i
def ipB : BOp → TIp
  | .add => ipI fun i j => i + j
  | .sub => ipI fun i j => i - j
  | _ => fun _ _ _ _ => False
def tParN : List Nat → TA → TS
  | [i, j], ta => tPar i j ta
  | [i, j, l], ta => tPar3 i j l ta
  | _, _ => fun _ _ _ => False
def trS (K : PySem.W.Frag) (Φ : Pm) : S → TS
  | .skip => tNext
  | .seq a b => tSeq (trS K Φ a) (trS K Φ b)
  | .set i e => tAsg (trE K Φ e) (gName i)
  | .setk i e => tAsg (trE K Φ e) (gName i)
  | .unp tg e => tAsg (trE K Φ e) (gTup K tg.length (gNames tg))
  | .par tg as => tParN tg (trA K Φ as)
  | .setI o i e => tAsg (trE K Φ e) (gSub (trE K Φ o) (trE K Φ i) rSetA)
  | .aug i o e => tAug i (trE K Φ e) (ipB o)
  | .setF i cs f e => sFldC Φ.cc cs (tVar i) (trE K Φ e) f
  | .augF i cs f e => sFldAugC Φ.cc cs (tVar i) (trE K Φ e) f
  | .ex e => tDrop (trE K Φ e)
  | .ret e => tRet (trE K Φ e)
  | .retN => tRetN
  | .ite c a b => tIfS (trT K Φ c) (trS K Φ a) (trS K Φ b)
  | .for_ it tg b => tFor (trI K Φ it) (trG K tg) (trS K Φ b)
  | .forV i tg b => tFor (iList K (tVar i)) (trG K tg) (trS K Φ b)
  | .forW w i tg b => tWalkS (tFor (iWk w (tVar i)) (trG K tg) (trS K Φ b))
  | .scope ws b u => tSeq (trS K Φ b) (trS K Φ u)
  | .whl c b => tWhile (trT K Φ c) (trS K Φ b)
  | .brk => tBreak
  | .cnt => tCont
  | .never => tNever
  | .raise c f e => sRaise Φ c f (trE K Φ e)
end Dv
namespace Dv
open PySem PySem.Spec PyProof.Rows L2
/-! ### derivations -/
/-- a def of the text that stands at the name x, with its promise -/
def FnAt (P : Program) (w : World) (K : PySem.W.Frag) (mg : Str → Option Value) (base : Heap) (k : Nat) (x : Str) (sp : Sp) : Prop :=
  ∃ f fd ps, mg x = some (.ref f) ∧ PySem.W.keepIn K (.ref f) = true ∧ Binds K fd ps [] ∧ FnOk P w K mg base (CXr P w) k f fd ps sp
section
variable {X : Cx} {Φ : Pm} {a b c o e : Expr} {es : List Expr} {ca cb cc ce co : E} {pos p pos' apos : Pos} {k : Nat}
theorem d_v (i : Nat) {x : Str} (hN : X.N[i]? = some x := by rfl) (hv : Vis X.env.scope x := by first | exact Or.inl rfl | exact Or.inr (Or.inl rfl) | exact Or.inr (Or.inr rfl)) (hd : (x == ("__debug__" : Str)) = false := by decide)
    (hcd : (x == ("__classdict__" : Str)) = false := by decide) : PE X (.Name x pos) (trE X.K Φ (.var i)) := pe_var hN hv hd hcd
theorem d_int {i : Int} {j : Nat} : PE X (.Constant (.int i) j pos) (trE X.K Φ (.cst (.int i))) := pe_int
theorem d_str {z : Str} {j : Nat} : PE X (.Constant (.str z) j pos) (trE X.K Φ (.cst (.str z))) := pe_str
theorem d_bl {z : Bool} {j : Nat} : PE X (.Constant (.bool z) j pos) (trE X.K Φ (.cst (.bl z))) := pe_bl
theorem d_non {j : Nat} : PE X (.Constant .none j pos) (trE X.K Φ (.cst .non)) := pe_non
theorem d_bin (op : BOp) (ha : PE X a (trE X.K Φ ca)) (hb : PE X b (trE X.K Φ cb)) : PE X (.BinOp a (bOp op) b pos) (trE X.K Φ (.bin op ca cb)) := pe_op (op_B op) ha hb
theorem d_cmp (op : COp) (hr : Room k X.A) (ha : PE X a (trE X.K Φ ca)) (hb : PE X b (trE X.K Φ cb)) (hm : behindInMarks (cOp op) b = false := by rfl) : PE X (.Compare a [cOp op] [b] pos) (trE X.K Φ (.cmp op ca cb)) := pe_cmpR (op_C hr op) ha hb hm
theorem d_neg (ha : PE X a (trE X.K Φ ca)) : PE X (.UnaryOp .USub a pos) (trE X.K Φ (.neg ca)) := (show PE X (.UnaryOp .USub a pos) (tUn (rU fun i => .int (-i)) (trE X.K Φ ca)) from pe_un un_neg ha)
theorem d_nt (ha : PE X a (trE X.K Φ ca)) : PE X (.UnaryOp .Not a pos) (trE X.K Φ (.nt ca)) := pe_not ha
theorem d_and (ha : PE X a (trE X.K Φ ca)) (hb : PE X (.BoolOp .And (b :: es) pos) (trE X.K Φ cb)) : PE X (.BoolOp .And (a :: b :: es) pos) (trE X.K Φ (.and_ ca cb)) := pe_and ha hb
theorem d_or (ha : PE X a (trE X.K Φ ca)) (hb : PE X (.BoolOp .Or (b :: es) pos) (trE X.K Φ cb)) : PE X (.BoolOp .Or (a :: b :: es) pos) (trE X.K Φ (.or_ ca cb)) := pe_or ha hb
theorem d_andT (ha : PE X a (trE X.K Φ ca)) (hb : PE X (.BoolOp .And (b :: es) pos) (trE X.K Φ cb)) : PE X (.BoolOp .And (a :: b :: es) pos) (trE X.K Φ (.andT ca cb)) := pe_andT ha hb
theorem d_one {op} (ha : PE X a (trE X.K Φ ca)) : PE X (.BoolOp op [a] pos) (trE X.K Φ ca) := pe_one ha
theorem d_ite (hc : PT X c (trT X.K Φ cc)) (ha : PE X a (trE X.K Φ ca)) (hb : PE X b (trE X.K Φ cb)) : PE X (.IfExp c a b pos) (trE X.K Φ (.ite cc ca cb)) := pe_ifExp hc ha hb
theorem a_nil : PA X [] (trA X.K Φ .nil) := pa_nil
theorem a_cons (ha : PE X a (trE X.K Φ ca)) (hr : PA X es (trA X.K Φ cb)) (hs : starEach (a :: es) X.env = (false, eval a X.env) :: starEach es X.env := by rfl) : PA X (a :: es) (trA X.K Φ (.cons ca cb)) := pa_cons ha hr hs
theorem d_lst (h : PA X es (trA X.K Φ ca)) : PE X (.List es pos) (trE X.K Φ (.lst ca)) := pe_lst h
theorem d_tup {x1} (h : PA X es (trA X.K Φ ca)) : PE X (.Tuple es x1 pos) (trE X.K Φ (.tup ca)) := pe_tup h
theorem d_dnew : PE X (.Dict [] [] pos) (trE X.K Φ .dnew) := pe_dnewK
theorem d_idx (hr : Room k X.A) (ha : PE X a (trE X.K Φ ca)) (hb : PE X b (trE X.K Φ cb)) (hs : PlainIx b := by exact fun _ _ => rfl) : PE X (.Subscript a b pos) (trE X.K Φ (.idx ca cb)) := pe_ix (ix_all hr) ha hb hs
theorem o_none : PO X none (trO X.K Φ .nopart) := po_none
theorem d_sl {lo hi : Option Expr} {p2 : Pos} (ha : PE X a (trE X.K Φ ca)) (hl : PO X lo (trO X.K Φ cb)) (hh : PO X hi (trO X.K Φ cc)) : PE X (.Subscript a (.Slice lo hi none p2) pos) (trE X.K Φ (.sl ca cb cc)) := pe_slice sl_all ha hl hh
/-- a part of a slice: e is no nopart (h by rfl) -/
theorem o_some (ha : PE X a (trE X.K Φ ca)) (h : trO X.K Φ ca = tPart (trE X.K Φ ca) := by rfl) : PO X (some a) (trO X.K Φ ca) := by
  rw [h]
  exact po_some ha
theorem boot_Bi : ∀ f : Bi, bootBuiltins (nBi f) = some (vBi f)
  | .len => by decide +kernel
  | .int1 => by decide +kernel
  | .sum => by decide +kernel
  | .any => by decide +kernel
  | .all => by decide +kernel
  | .max2 => by decide +kernel
  | .min2 => by decide +kernel
  | .abs => by decide +kernel
  | .list1 => by decide +kernel
theorem d_bi (f : Bi) {x : Str} (hx : nBi f = x) (hc : X.calm = true) (hg : Gl X x) (hm : X.mg x = none) (ha : PA X (e :: es) (trA X.K Φ ca)) (hn : x ≠ "__name__" := by decide) (hdb : (x == ("__debug__" : Str)) = false := by decide)
    (he : starEach (e :: es) X.env = (false, eval e X.env) :: starEach es X.env := by rfl) (hpl : (backTo pos (starEach es X.env)).any (·.1) = false := by rfl) :
    PE X (.Call (.Name x p) (e :: es) [] pos) (trE X.K Φ (.bi f ca)) := by
  subst hx
  have hv := boot_Bi f
  have hcr := cr_Bi (X := X) hc f
  cases f <;> first
    | exact pe_callB hcr hg hm hv ha hn hdb he hpl
    | exact pe_callTy hcr hg hm hv ha hn hdb he hpl
theorem d_isi {t : String} {x q : Str} {p2 : Pos} (hi : q = "isinstance") (hx : Str.ofString t = x) (hg : Gl X q) (hm : X.mg q = none) (hg2 : Gl X x) (hm2 : X.mg x = none) (ha : PE X a (trE X.K Φ ca)) (hv2 : bootBuiltins x = some (.type t) := by decide +kernel)
    (hn : x ≠ "__name__" := by decide +kernel) (hdb : (x == ("__debug__" : Str)) = false := by decide +kernel)
    (he : starEach [a, .Name x p2] X.env = (false, eval a X.env) :: starEach [.Name x p2] X.env := by rfl) (he2 : starEach [.Name x p2] X.env = (false, eval (.Name x p2) X.env) :: starEach [] X.env := by rfl)
    (hpl : (backTo pos (starEach [.Name x p2] X.env)).any (·.1) = false := by rfl) :
    PE X (.Call (.Name q p) [a, .Name x p2] [] pos) (trE X.K Φ (.isi ca t)) := by
  subst hi
  exact pe_callB call_isi2 hg hm (by decide +kernel) (pa_cons ha (pa_cons (pe_bltn (v := .ty t) hg2 hm2 hv2 rfl hn hdb) pa_nil he2) he) (by decide) (by decide) he hpl
theorem d_minD {j : Nat} {cp kp : Pos} (hc : X.calm = true) (hg : Gl X "min") (hm : X.mg "min" = none) (ha : PE X a (trE X.K Φ ca))
    (na : starEach [a] X.env = (false, eval a X.env) :: starEach [] X.env := by rfl) : PE X (.Call (.Name "min" p) [a] [⟨some "default", .Constant .none j cp, kp⟩] pos) (trE X.K Φ (.minD ca)) := pe_minD hc hg hm ha na
theorem d_lenSet {p2 q : Pos} (hc : X.calm = true) (hg : Gl X "len") (hm : X.mg "len" = none) (hg2 : Gl X "set") (hm2 : X.mg "set" = none) (ha : PE X a (trE X.K Φ ca))
    (na : starEach [a] X.env = (false, eval a X.env) :: starEach [] X.env := by rfl) : PE X (.Call (.Name "len" p) [.Call (.Name "set" p2) [a] [] q] [] pos) (trE X.K Φ (.lenSet ca)) := pe_lenSetT hc hg hm hg2 hm2 ha na
theorem ps_str {k v : Str} {j j' : Nat} {p p2 : Pos} {ks : List (Option Expr)} {vs : List Expr} {r : List (Str × Str)} (h : PPs X pos ks vs (r.map fun q => (tC (.str q.1), tC (.str q.2)))) :
    PPs X pos (some (.Constant (.str k) j p) :: ks) (.Constant (.str v) j' p2 :: vs) (((k, v) :: r).map fun q => (tC (.str q.1), tC (.str q.2))) := pps_cons pe_str pe_str h
theorem ps_end : PPs X pos [] [] (([] : List (Str × Str)).map fun q => (tC (.str q.1), tC (.str q.2))) := pps_nil
theorem d_dsp {keys : List (Option Expr)} {values : List Expr} {ks : List (Str × Str)} (h : PPs X pos keys values (ks.map fun q => (tC (.str q.1), tC (.str q.2)))) (hall : keys.all (·.isSome) = true := by rfl) (hl : keys.length = values.length := by rfl) (h0 : keys ≠ [] := by exact fun z => by cases z)
    (h15 : keys.length ≤ 15 := by decide) : PE X (.Dict keys values pos) (trE X.K Φ (.dsp ks)) := pe_disp h hall hl h0 h15
theorem d_keysL {apos cpos : Pos} (hc : X.calm = true) (hg : Gl X "list") (hm : X.mg "list" = none) (ha : PE X a (trE X.K Φ ca)) (hv : bootBuiltins "list" = some (.type "list") := by decide +kernel) (hbase : attributeBase a "keys" X.env (eval a X.env) = eval a X.env := by rfl) (hline : (apos.endLine == cpos.line) = true := by rfl)
    (hs : starEach [.Call (.Attribute a "keys" apos) [] [] cpos] X.env = (false, eval (.Call (.Attribute a "keys" apos) [] [] cpos) X.env) :: starEach [] X.env := by rfl) :
    PE X (.Call (.Name "list" p) [.Call (.Attribute a "keys" apos) [] [] cpos] [] pos) (trE X.K Φ (.keysL ca)) := pe_listKeys hc ha hg hm hv hbase hline hs
theorem d_call (f : Nat) {x : Str} (F : FnAt X.prog X.w X.K X.mg X.base k x (Φ f)) (px : Passes (CXr X.prog X.w) X Φ.xk) (hr : Room k X.A) (hg : Gl X x) (ha : PA X (e :: es) (trA X.K Φ ca)) (hdb : (x == ("__debug__" : Str)) = false := by decide)
    (he : starEach (e :: es) X.env = (false, eval e X.env) :: starEach es X.env := by rfl) (hpl : (backTo pos (starEach es X.env)).any (·.1) = false := by rfl) :
    PE X (.Call (.Name x p) (e :: es) [] pos) (trE X.K Φ (.call f ca)) := by
  obtain ⟨g, fd, ps, hm, hk, hb, F⟩ := F
  exact pe_call (E := Φ.xk) F hr hg hm hk hb .nil px ha hdb he hpl
theorem d_call0 (f : Nat) {x : Str} (F : FnAt X.prog X.w X.K X.mg X.base k x (Φ f)) (px : Passes (CXr X.prog X.w) X Φ.xk) (hr : Room k X.A) (hg : Gl X x) (hdb : (x == ("__debug__" : Str)) = false := by decide) :
    PE X (.Call (.Name x p) [] [] pos) (trE X.K Φ (.call f .nil)) := by
  obtain ⟨g, fd, ps, hm, hk, hb, F⟩ := F
  exact pe_call0 (E := Φ.xk) F hr hg hm hk hb .nil px hdb
/-! objects -/
/-- a method of the class, with its promise -/
def MthAt (P : Program) (w : World) (K : PySem.W.Frag) (mg : Str → Option Value) (base : Heap) (k : Nat) (C : Addr) (m : Str) (sp : Sp) : Prop :=
  ∃ f fd ps, Meth K C m f ∧ Binds K fd ps [] ∧ FnOk P w K mg base (CXr P w) k f fd ps sp
/-- the class at the name x, with its __init__'s promise -/
def MkAt (P : Program) (w : World) (K : PySem.W.Frag) (mg : Str → Option Value) (base : Heap) (k : Nat) (C : Addr) (x : Str) (sp : Sp) : Prop :=
  ∃ f fd ps, Mk K C f ∧ mg x = some (.ref C) ∧ Binds K fd ps [] ∧ FnOk P w K mg base (CXr P w) k f fd ps sp
/-- a def of the class at the name x, called by the class -/
def CfnAt (P : Program) (w : World) (K : PySem.W.Frag) (mg : Str → Option Value) (base : Heap) (k : Nat) (x m : Str) (sp : Sp) : Prop :=
  ∃ C mc f fd ps, mg x = some (.ref C) ∧ ClX.CRead K C mc ∧ ClX.CVal K C mc m (.ref f) (.ref f) ∧ PySem.W.keepIn K (.ref f) = true ∧ Binds K fd ps [] ∧ FnOk P w K mg base (CXr P w) k f fd ps sp
/-- of the classes cs the attribute f is the object's own -/
def FldAt (K : PySem.W.Frag) (cc : Nat → Addr) (cs : List Nat) (f : Str) : Prop := ∀ c ∈ cs, Cls K (cc c) ∧ NoAttr K (cc c) f
theorem d_fld {f : Str} {cs : List Nat} (hc : FldAt X.K Φ.cc cs f) (ho : PE X o (trE X.K Φ co)) (hb : attributeBase o f X.env (eval o X.env) = eval o X.env := by rfl) : PE X (.Attribute o f pos) (trE X.K Φ (.fld cs co f)) := by
  refine ⟨fun pins s σ H Q I h => ?_⟩
  replace h : tFldC Φ.cc cs (trE X.K Φ co) f σ H Q := h
  refine attr_of hb (thn (ho.run pins s σ H _ I h) fun u s1 ⟨x, H1, I1, rx, a, c, dx, fs, v, ex, ea, m, l, q⟩ => ?_)
  subst ex
  obtain rfl : u = Value.ref a := rx
  exact getattr_ok I1 ea (hc c m).1 (hc c m).2 l fun u' s2 I2 ru => ⟨v, H1, I2, ru, q⟩
theorem d_meth {m : Str} {tbl : List (Nat × Nat)} {pl : Sem Bool} (hc : ∀ p ∈ tbl, Cls X.K (Φ.cc p.1)) (F : ∀ p ∈ tbl, MthAt X.prog X.w X.K X.mg X.base k (Φ.cc p.1) m (Φ.sp p.2)) (px : Passes (CXr X.prog X.w) X Φ.xk) (hr : Room k X.A) (ho : PE X o (trE X.K Φ co)) (ha : PA X (e :: es) (trA X.K Φ ca))
    (hst : starEach (e :: es) X.env = (false, eval e X.env) :: starEach es X.env := by rfl) (hpl : (backTo pos (starEach es X.env)).any (·.1) = false := by rfl)
    (ht : eval (.Call (.Attribute o m apos) (e :: es) [] pos) X.env = (do
      let ov ← eval o X.env
      standAt apos.atName
      let (f, first) ← holding [ov] (getMethod ov m pl)
      callWith pos f first (backTo pos (starEach (e :: es) X.env)) (backToKw pos (keywordEach [] X.env))) := by rfl) :
    PE X (.Call (.Attribute o m apos) (e :: es) [] pos) (trE X.K Φ (.meth m tbl co ca)) := by
  refine ⟨fun pins s σ H Q I h => ?_⟩
  replace h : tMethD Φ m tbl (trE X.K Φ co) (trA X.K Φ ca) σ H Q := h
  refine PySem.W.methodCall_KW (pl := pl) (thn (ho.run pins s σ H _ I h) fun u s1 ⟨x, H1, I1, rx, a, c, dx, fs, g, ex, ea, mem, l, q⟩ => ?_) ht
  subst ex
  obtain rfl : u = Value.ref a := rx
  obtain ⟨f, fd, ps, hm, hb, Fo⟩ := F _ mem
  refine getmeth_ok I1 ea (hc _ mem) hm l ?_
  refine PySem.W.callWith_K (first := [.ref a]) (h₀ := X.base) I.ok.mod.kin hm.kp (thn (ha.run pos pins s1 σ H1 _ I1 q) fun us s2 ⟨vs, H2, I2, r, q2⟩ => ⟨I2.kIn, ?_⟩) hst hpl
  exact run_fn (us := .ref a :: us) (vs := .ref a :: vs) (E := Φ.xk) Fo hr hb .nil px I2 (.cons rfl r) (by rw [List.append_nil]; exact q2)
theorem d_meth0 {m : Str} {tbl : List (Nat × Nat)} {pl : Sem Bool} (hc : ∀ p ∈ tbl, Cls X.K (Φ.cc p.1)) (F : ∀ p ∈ tbl, MthAt X.prog X.w X.K X.mg X.base k (Φ.cc p.1) m (Φ.sp p.2)) (px : Passes (CXr X.prog X.w) X Φ.xk) (hr : Room k X.A) (ho : PE X o (trE X.K Φ co))
    (ht : eval (.Call (.Attribute o m apos) [] [] pos) X.env = (do
      let ov ← eval o X.env
      standAt apos.atName
      let (f, first) ← holding [ov] (getMethod ov m pl)
      callWith pos f first (backTo pos (starEach [] X.env)) (backToKw pos (keywordEach [] X.env))) := by rfl) :
    PE X (.Call (.Attribute o m apos) [] [] pos) (trE X.K Φ (.meth m tbl co .nil)) := by
  refine ⟨fun pins s σ H Q I h => ?_⟩
  replace h : tMethD Φ m tbl (trE X.K Φ co) tNil σ H Q := h
  refine PySem.W.methodCall_KW (pl := pl) (thn (ho.run pins s σ H _ I h) fun u s1 ⟨x, H1, I1, rx, a, c, dx, fs, g, ex, ea, mem, l, q⟩ => ?_) ht
  subst ex
  obtain rfl : u = Value.ref a := rx
  obtain ⟨f, fd, ps, hm, hb, Fo⟩ := F _ mem
  refine getmeth_ok I1 ea (hc _ mem) hm l ?_
  exact PySem.W.callWith_K0 (first := [.ref a]) I1.kIn hm.kp (run_fn (us := [.ref a]) (vs := [.ref a]) (E := Φ.xk) Fo hr hb .nil px I1 (.cons rfl .nil) q)
theorem d_new (c f : Nat) {x : Str} (F : MkAt X.prog X.w X.K X.mg X.base k (Φ.cc c) x (Φ.sp f)) (px : Passes (CXr X.prog X.w) X Φ.xk) (hr : Room (k + 1) X.A) (hg : Gl X x) (ha : PA X (e :: es) (trA X.K Φ ca)) (hdb : (x == ("__debug__" : Str)) = false := by decide)
    (he : starEach (e :: es) X.env = (false, eval e X.env) :: starEach es X.env := by rfl) (hpl : (backTo pos (starEach es X.env)).any (·.1) = false := by rfl) :
    PE X (.Call (.Name x p) (e :: es) [] pos) (trE X.K Φ (.new c f ca)) := by
  obtain ⟨g, fd, ps, M, hm, hb, F⟩ := F
  exact pe_make (E := Φ.xk) M F hr hg hm hb .nil px ha hdb he hpl
theorem d_new0 (c f : Nat) {x : Str} (F : MkAt X.prog X.w X.K X.mg X.base k (Φ.cc c) x (Φ.sp f)) (px : Passes (CXr X.prog X.w) X Φ.xk) (hr : Room (k + 1) X.A) (hg : Gl X x) (hdb : (x == ("__debug__" : Str)) = false := by decide) :
    PE X (.Call (.Name x p) [] [] pos) (trE X.K Φ (.new c f .nil)) := by
  obtain ⟨g, fd, ps, M, hm, hb, F⟩ := F
  exact pe_make0 (E := Φ.xk) M F hr hg hm hb .nil px hdb
theorem d_cfn (f : Nat) {x m : Str} {p2 : Pos} {pl : Sem Bool} (F : CfnAt X.prog X.w X.K X.mg X.base k x m (Φ.sp f)) (px : Passes (CXr X.prog X.w) X Φ.xk) (hr : Room k X.A) (hg : Gl X x) (ha : PA X (e :: es) (trA X.K Φ ca)) (hdb : (x == ("__debug__" : Str)) = false := by decide)
    (hst : starEach (e :: es) X.env = (false, eval e X.env) :: starEach es X.env := by rfl) (hpl : (backTo pos (starEach es X.env)).any (·.1) = false := by rfl)
    (ht : eval (.Call (.Attribute (.Name x p2) m apos) (e :: es) [] pos) X.env = (do
      let ov ← eval (.Name x p2) X.env
      standAt apos.atName
      let (f, first) ← holding [ov] (getMethod ov m pl)
      callWith pos f first (backTo pos (starEach (e :: es) X.env)) (backToKw pos (keywordEach [] X.env))) := by rfl) :
    PE X (.Call (.Attribute (.Name x p2) m apos) (e :: es) [] pos) (trE X.K Φ (.call f ca)) := by
  obtain ⟨C, mc, g, fd, ps, hm, r, k', hk, hb, F⟩ := F
  refine ⟨fun pins s σ H Q I h => ?_⟩
  replace h : tCall (Φ.sp f) [] Φ.xk (trA X.K Φ ca) σ H Q := h
  refine PySem.W.methodCall_KW (pl := pl) (ld_glob I hg hm ?_ hdb) ht
  refine PySem.W.method_cls I.kIn r.ga (ClX.getcval_ok I r k' fun s2 I2 => ?_)
  refine PySem.W.callWith_K (h₀ := X.base) I.ok.mod.kin hk (thn (ha.run pos pins s2 σ H _ I2 h) fun us s1 ⟨vs, H1, I1, r, q⟩ => ⟨I1.kIn, ?_⟩) hst hpl
  exact run_fn (E := Φ.xk) F hr hb .nil px I1 r q
theorem d_join (ho : PE X o (trE X.K Φ co)) (ha : PE X a (trE X.K Φ ca))
    (hbase : attributeBase o "join" X.env (eval o X.env) = eval o X.env := by rfl)
    (hfew : ((backTo pos (starEach [a] X.env)).all (fun x => !x.1) && (backToKw pos (keywordEach [] X.env)).all (fun x => x.1.isSome)
      && decide ([a].length + ([] : List Keyword).length + (if ([] : List Keyword).isEmpty then 0 else 1) < 30)) = true := by rfl)
    (hline : (apos.endLine == pos.line) = true := by rfl) (hs : starEach [a] X.env = (false, eval a X.env) :: starEach [] X.env := by rfl) :
    PE X (.Call (.Attribute o "join" apos) [a] [] pos) (trE X.K Φ (.bm .join co (.cons ca .nil))) :=
  pe_bm PySem.F.plainAttrs_str PySem.F.slot_str_join PySem.F.type_str_join mt_join ho (pa_cons ha pa_nil hs) hbase hfew hline hs rfl
theorem d_startswith (ho : PE X o (trE X.K Φ co)) (ha : PE X a (trE X.K Φ ca))
    (hbase : attributeBase o "startswith" X.env (eval o X.env) = eval o X.env := by rfl)
    (hfew : ((backTo pos (starEach [a] X.env)).all (fun x => !x.1) && (backToKw pos (keywordEach [] X.env)).all (fun x => x.1.isSome)
      && decide ([a].length + ([] : List Keyword).length + (if ([] : List Keyword).isEmpty then 0 else 1) < 30)) = true := by rfl)
    (hline : (apos.endLine == pos.line) = true := by rfl) (hs : starEach [a] X.env = (false, eval a X.env) :: starEach [] X.env := by rfl) :
    PE X (.Call (.Attribute o "startswith" apos) [a] [] pos) (trE X.K Φ (.bm .startswith co (.cons ca .nil))) :=
  pe_bm PySem.F.plainAttrs_str PySem.F.slot_str_startswith PySem.F.type_str_startswith mt_startswith ho (pa_cons ha pa_nil hs) hbase hfew hline hs rfl
theorem d_sindex (ho : PE X o (trE X.K Φ co)) (ha : PE X a (trE X.K Φ ca))
    (hbase : attributeBase o "index" X.env (eval o X.env) = eval o X.env := by rfl)
    (hfew : ((backTo pos (starEach [a] X.env)).all (fun x => !x.1) && (backToKw pos (keywordEach [] X.env)).all (fun x => x.1.isSome)
      && decide ([a].length + ([] : List Keyword).length + (if ([] : List Keyword).isEmpty then 0 else 1) < 30)) = true := by rfl)
    (hline : (apos.endLine == pos.line) = true := by rfl) (hs : starEach [a] X.env = (false, eval a X.env) :: starEach [] X.env := by rfl) :
    PE X (.Call (.Attribute o "index" apos) [a] [] pos) (trE X.K Φ (.bm .sindex co (.cons ca .nil))) :=
  pe_bm PySem.F.plainAttrs_str PySem.F.slot_str_index PySem.F.type_str_index mt_sindex ho (pa_cons ha pa_nil hs) hbase hfew hline hs rfl
theorem d_index (ho : PE X o (trE X.K Φ co)) (ha : PE X a (trE X.K Φ ca))
    (hbase : attributeBase o "index" X.env (eval o X.env) = eval o X.env := by rfl)
    (hfew : ((backTo pos (starEach [a] X.env)).all (fun x => !x.1) && (backToKw pos (keywordEach [] X.env)).all (fun x => x.1.isSome)
      && decide ([a].length + ([] : List Keyword).length + (if ([] : List Keyword).isEmpty then 0 else 1) < 30)) = true := by rfl)
    (hline : (apos.endLine == pos.line) = true := by rfl) (hs : starEach [a] X.env = (false, eval a X.env) :: starEach [] X.env := by rfl) :
    PE X (.Call (.Attribute o "index" apos) [a] [] pos) (trE X.K Φ (.bm .index co (.cons ca .nil))) :=
  pe_bm PySem.F.plainAttrs_list PySem.F.slot_list_index PySem.F.type_list_index mt_index ho (pa_cons ha pa_nil hs) hbase hfew hline hs rfl
theorem d_mut1 (m : Mu) {i : Nat} {name : Str} {id : String} (slot : Slot "list" name id) (hty : typeOf (.builtin id) = pure (.type "method_descriptor")) (hm : MtR X id (rMu m)) (ho : PE X o (trE X.K Φ (.var i))) (ha : PE X a (trE X.K Φ ca))
    (hbase : attributeBase o name X.env (eval o X.env) = eval o X.env := by rfl)
    (hfew : ((backTo pos (starEach [a] X.env)).all (fun x => !x.1) && (backToKw pos (keywordEach [] X.env)).all (fun x => x.1.isSome)
      && decide ([a].length + ([] : List Keyword).length + (if ([] : List Keyword).isEmpty then 0 else 1) < 30)) = true := by rfl)
    (hline : (apos.endLine == pos.line) = true := by rfl) (hs : starEach [a] X.env = (false, eval a X.env) :: starEach [] X.env := by rfl) :
    PE X (.Call (.Attribute o name apos) [a] [] pos) (trE X.K Φ (.mut m i (.cons ca .nil))) :=
  pe_bm PySem.F.plainAttrs_list slot hty hm ho (pa_cons ha pa_nil hs) hbase hfew hline hs rfl
theorem d_mut0 (m : Mu) {i : Nat} {name : Str} {id : String} (slot : Slot "list" name id) (hty : typeOf (.builtin id) = pure (.type "method_descriptor")) (hm : MtR X id (rMu m)) (ho : PE X o (trE X.K Φ (.var i)))
    (hbase : attributeBase o name X.env (eval o X.env) = eval o X.env := by rfl) (hline : (apos.endLine == pos.line) = true := by rfl) :
    PE X (.Call (.Attribute o name apos) [] [] pos) (trE X.K Φ (.mut m i .nil)) :=
  pe_bm0 PySem.F.plainAttrs_list slot hty hm ho hbase hline
theorem d_mutE1 (m : Mu) {name : Str} {id : String} (slot : Slot "list" name id) (hty : typeOf (.builtin id) = pure (.type "method_descriptor")) (hm : MtR X id (rMu m)) (ho : PE X o (trE X.K Φ co)) (ha : PE X a (trE X.K Φ ca))
    (hbase : attributeBase o name X.env (eval o X.env) = eval o X.env := by rfl)
    (hfew : ((backTo pos (starEach [a] X.env)).all (fun x => !x.1) && (backToKw pos (keywordEach [] X.env)).all (fun x => x.1.isSome)
      && decide ([a].length + ([] : List Keyword).length + (if ([] : List Keyword).isEmpty then 0 else 1) < 30)) = true := by rfl)
    (hline : (apos.endLine == pos.line) = true := by rfl) (hs : starEach [a] X.env = (false, eval a X.env) :: starEach [] X.env := by rfl) :
    PE X (.Call (.Attribute o name apos) [a] [] pos) (trE X.K Φ (.mutE m co (.cons ca .nil))) :=
  pe_bm PySem.F.plainAttrs_list slot hty hm ho (pa_cons ha pa_nil hs) hbase hfew hline hs rfl
theorem d_mutE0 (m : Mu) {name : Str} {id : String} (slot : Slot "list" name id) (hty : typeOf (.builtin id) = pure (.type "method_descriptor")) (hm : MtR X id (rMu m)) (ho : PE X o (trE X.K Φ co))
    (hbase : attributeBase o name X.env (eval o X.env) = eval o X.env := by rfl) (hline : (apos.endLine == pos.line) = true := by rfl) :
    PE X (.Call (.Attribute o name apos) [] [] pos) (trE X.K Φ (.mutE m co .nil)) :=
  pe_bm0 PySem.F.plainAttrs_list slot hty hm ho hbase hline
theorem d_get1 (hr : Room k X.A) (ho : PE X o (trE X.K Φ co)) (ha : PE X a (trE X.K Φ ca)) (m : M1 X o "get" apos a pos := by exact ⟨rfl, rfl, rfl, rfl⟩) : PE X (.Call (.Attribute o "get" apos) [a] [] pos) (trE X.K Φ (.get1 co ca)) :=
  pe_dget1 (by have := hr.un; omega) ho ha m
theorem d_get2 (hr : Room k X.A) (ho : PE X o (trE X.K Φ co)) (ha : PE X a (trE X.K Φ ca)) (hb : PE X b (trE X.K Φ cb)) (m : M2 X o "get" apos a b pos := by exact ⟨rfl, rfl, rfl, rfl⟩) : PE X (.Call (.Attribute o "get" apos) [a, b] [] pos) (trE X.K Φ (.get2 co ca cb)) :=
  pe_dget2 (by have := hr.un; omega) ho ha hb m
/-! tests -/
theorem t_cmp (op : COp) (hr : Room k X.A) (ha : PE X a (trE X.K Φ ca)) (hb : PE X b (trE X.K Φ cb)) (hm : behindInMarks (cOp op) b = false := by rfl) : PT X (.Compare a [cOp op] [b] pos) (trT X.K Φ (.cmp op ca cb)) := pt_cmpR (op_C hr op) ha hb hm
theorem t_nt (ha : PT X a (trT X.K Φ ca)) : PT X (.UnaryOp .Not a pos) (trT X.K Φ (.nt ca)) := pt_not ha
theorem w_and1 (ha : PT X a (trT X.K Φ ca)) : PW X (.BoolOp .And [a] pos) (trT X.K Φ ca) := pw_and1 ha
theorem w_or1 (ha : PT X a (trT X.K Φ ca)) : PW X (.BoolOp .Or [a] pos) (trT X.K Φ ca) := pw_or1 ha
theorem w_and (ha : PT X a (trT X.K Φ ca)) (hb : PW X (.BoolOp .And (b :: es) pos) (trT X.K Φ cb)) : PW X (.BoolOp .And (a :: b :: es) pos) (trT X.K Φ (.and_ ca cb)) := pw_and ha hb
theorem w_or (ha : PT X a (trT X.K Φ ca)) (hb : PW X (.BoolOp .Or (b :: es) pos) (trT X.K Φ cb)) : PW X (.BoolOp .Or (a :: b :: es) pos) (trT X.K Φ (.or_ ca cb)) := pw_or ha hb
theorem w_pt (h : PW X e (trT X.K Φ ce)) : PT X e (trT X.K Φ ce) := h.pt
theorem t_tru (ha : PE X a (trE X.K Φ ca)) (h : trT X.K Φ ca = tTru X.K (trE X.K Φ ca) := by rfl) (he : ∀ whole, isTrue a X.env whole = (do let v ← whole; standAt a.pos; holding [v] (truthy v)) := by intro _; rfl) : PT X a (trT X.K Φ ca) := by
  rw [h]
  exact pt_truth ha he
/-! targets, what is walked, comprehensions -/
theorem g_nm (i : Nat) {x : Str} (hN : X.N.Nodup) (hi : X.N[i]? = some x := by rfl) (hx : Loc X.env.scope x := by first | exact Or.inl rfl | exact Or.inr rfl)
    (hf : X.fn x = true ∨ X.env.scope.names.lookup x = some .local := by first | exact .inl rfl | exact .inr rfl | assumption) : PG X (.Name x pos) (gName i) := pg_name hN hi hx hf
theorem gs_nil : PGs X [] (gNames []) := pgs_nil
theorem gs_cons (i : Nat) {x : Str} {is : List Nat} {p1 : Pos} (hN : X.N.Nodup) (h2 : PGs X es (gNames is)) (hi : X.N[i]? = some x := by rfl) (hx : Loc X.env.scope x := by first | exact Or.inl rfl | exact Or.inr rfl)
    (hf : X.fn x = true ∨ X.env.scope.names.lookup x = some .local := by first | exact .inl rfl | exact .inr rfl | assumption)
    (hs : (assignEach (.Name x p1 :: es) X.env).map (·.2) = assign (.Name x p1) X.env :: (assignEach es X.env).map (·.2) := by rfl) : PGs X (.Name x p1 :: es) (gNames (i :: is)) := pgs_cons (pg_name hN hi hx hf) h2 hs
theorem g_tp {is : List Nat} {j : Nat} (hc : X.calm = true) (h : PGs X es (gNames is)) (hn : (assignEach es X.env).length = is.length := by rfl) (hst : (assignEach es X.env).findIdx? (·.1) = none := by rfl) : PG X (.Tuple es j pos) (gTup X.K is.length (gNames is)) := pg_tup hc h hn hst
theorem i_L {tg : Expr} (ha : PE X a (trE X.K Φ ca)) : PI X tg a (trI X.K Φ (.itL ca)) := pi_list ha
theorem i_T {tg : Expr} (ha : PE X a (trE X.K Φ ca)) : PI X tg a (trI X.K Φ (.itT ca)) := pi_tup ha
theorem i_Rev {tg : Expr} (hg : Gl X "reversed") (hm : X.mg "reversed" = none) (ha : PA X [a] (trA X.K Φ ca)) (hs : starEach [a] X.env = [(false, eval a X.env)] := by rfl) : PI X tg (.Call (.Name "reversed" p) [a] [] pos) (trI X.K Φ (.itRev ca)) := pi_reversed hg hm ha hs
theorem i_R1 {tg : Expr} (hg : Gl X "range") (hm : X.mg "range" = none) (ha : PA X [a] (trA X.K Φ ca)) (hs : starEach [a] X.env = [(false, eval a X.env)] := by rfl) : PI X tg (.Call (.Name "range" p) [a] [] pos) (trI X.K Φ (.itR1 ca)) := pi_range1 hg hm ha hs
theorem i_R2 {tg : Expr} (hg : Gl X "range") (hm : X.mg "range" = none) (ha : PA X [a, b] (trA X.K Φ ca)) (hs : starEach [a, b] X.env = [(false, eval a X.env), (false, eval b X.env)] := by rfl) (hs2 : starEach [b] X.env = [(false, eval b X.env)] := by rfl) : PI X tg (.Call (.Name "range" p) [a, b] [] pos) (trI X.K Φ (.itR2 ca)) := pi_range2 hg hm ha hs hs2
theorem i_E {tpos : Pos} {elts : List Expr} {kk : Nat} (hg : Gl X "enumerate") (hm : X.mg "enumerate" = none) (ha : PA X [a] (trA X.K Φ ca)) (hs : starEach [a] X.env = [(false, eval a X.env)] := by rfl) : PI X (.Tuple elts kk tpos) (.Call (.Name "enumerate" p) [a] [] pos) (trI X.K Φ (.itE ca)) := pi_enum hg hm ha hs
theorem ts_nil : PTs X [] (trT X.K Φ .nopart) := pts_nil
theorem ts_one (h : PT X c (trT X.K Φ cc)) : PTs X [c] (trT X.K Φ cc) := pts_one h
theorem d_comp (own : List (Str × Nat)) {vs : List Nat} {elt tg iter : Expr} {ifs : List Expr} {scope : Scope} {is : List Nat} (hvs : own.map (·.2) = vs) (hc : X.calm = true) (hN : X.N.Nodup) (hi : PI X tg iter (trI X.K Φ ca)) (ok : blkC X.N X.env.scope scope own = true)
    (hg : ∀ (s : Shared) (H : Hp) (C : Addr) (cl : List (Str × Addr)) (fp : List Addr), PG (X.blk s H scope (compEnvC scope cl C X.env) fp) tg (trG X.K is)) (ht : ∀ (s : Shared) (H : Hp) (C : Addr) (cl : List (Str × Addr)) (fp : List Addr), PTs (X.blk s H scope (compEnvC scope cl C X.env) fp) ifs (trT X.K (Φ.at E0) cc))
    (he : ∀ (s : Shared) (H : Hp) (C : Addr) (cl : List (Str × Addr)) (fp : List Addr), PE (X.blk s H scope (compEnvC scope cl C X.env) fp) elt (trE X.K (Φ.at E0) ce)) (hs : ∀ x, foldedSetIterable iter X.env x = pure x := by intro _; rfl) :
    PE X (.ListComp elt [⟨tg, iter, ifs, 0⟩] scope pos) (trE X.K Φ (.comp vs ca is cc ce)) := by
  subst hvs
  exact pe_lc hc hN hi (blkOk_by ok) hg ht he hs
/-! statements -/
variable {st : Stmt} {rest : List Stmt} {sa sb : S} {ba bb : List Stmt}
theorem s_nil : PSs X [] (trS X.K Φ .skip) := pss_nil
theorem s_cons (h1 : PS X st (trS X.K Φ sa)) (h2 : PSs X rest (trS X.K Φ sb)) : PSs X (st :: rest) (trS X.K Φ (.seq sa sb)) := pss_cons h1 h2
theorem s_one (h1 : PS X st (trS X.K Φ sa)) : PSs X [st] (trS X.K Φ sa) := pss_one h1
theorem s_set (i : Nat) {x : Str} (hN : X.N.Nodup) (he : PE X e (trE X.K Φ ce)) (hi : X.N[i]? = some x := by rfl) (hx : Loc X.env.scope x := by first | exact Or.inl rfl | exact Or.inr rfl)
    (hs : swapsWith e (some (.Name x pos')) pos.line X.env = pure false := by rfl) (hf : X.fn x = true ∨ X.env.scope.names.lookup x = some .local := by first | exact .inl rfl | exact .inr rfl | assumption) :
    PS X (.Assign [.Name x pos'] e pos) (trS X.K Φ (.set i ce)) := ps_set hN hi hx he hs hf
theorem s_setC (i : Nat) {y : Str} (own : List (Str × Nat)) {vs : List Nat} {elt tg iter : Expr} {ifs : List Expr} {scope : Scope} {is : List Nat} (hvs : own.map (·.2) = vs) (hc : X.calm = true) (hN : X.N.Nodup) (hi : PI X tg iter (trI X.K Φ ca)) (ok : blkC X.N X.env.scope scope own = true)
    (hg : ∀ (s : Shared) (H : Hp) (C : Addr) (cl : List (Str × Addr)) (fp : List Addr), PG (X.blk s H scope (compEnvC scope cl C X.env) fp) tg (trG X.K is)) (ht : ∀ (s : Shared) (H : Hp) (C : Addr) (cl : List (Str × Addr)) (fp : List Addr), PTs (X.blk s H scope (compEnvC scope cl C X.env) fp) ifs (trT X.K (Φ.at E0) cc))
    (he : ∀ (s : Shared) (H : Hp) (C : Addr) (cl : List (Str × Addr)) (fp : List Addr), PE (X.blk s H scope (compEnvC scope cl C X.env) fp) elt (trE X.K (Φ.at E0) ce))
    (hk : X.env.scope.kind = .function := by rfl) (hy : X.N[i]? = some y := by rfl) (hyl : X.env.scope.names.lookup y = some .local := by rfl) (hl : (pos'.line == p.line) = true := by rfl)
    (ha : (scope.names.any fun (n, k) => n == y && (k == .local || k == .cell)) = false := by decide +kernel) (hs : ∀ x, foldedSetIterable iter X.env x = pure x := by intro _; rfl) :
    PS X (.Assign [.Name y pos'] (.ListComp elt [⟨tg, iter, ifs, 0⟩] scope p) pos) (trS X.K Φ (.set i (.comp vs ca is cc ce))) := by
  subst hvs
  exact ps_setLc hc hN hy hyl (sw_true hk hyl hl ha) hi (blkOk_by ok) hg ht he hs
theorem s_unp {tg : Expr} {is : List Nat} (he : PE X e (trE X.K Φ ce)) (hg : PG X tg (gTup X.K is.length (gNames is))) (hs : swapsWithSole [tg] e pos.line X.env = pure false := by rfl) (hw : swappedStores [tg] e X.env = pure none := by rfl)
    (h1 : (assignEach [tg] X.env).map (·.2) = [assign tg X.env] := by rfl) : PS X (.Assign [tg] e pos) (trS X.K Φ (.unp is ce)) := ps_asg he hg hs hw h1
theorem s_par2 (i j : Nat) {x y : Str} {px py pz pt p2 : Pos} {kt k2} {e1 e2 : Expr} (hN : X.N.Nodup) (hc : X.calm = true) (ha : PA X [e1, e2] (trA X.K Φ ca)) (hi : X.N[i]? = some x := by rfl) (hj : X.N[j]? = some y := by rfl) (hij : i ≠ j := by decide)
    (hx : X.env.scope.names.lookup x = some .local := by rfl) (hy : X.env.scope.names.lookup y = some .local := by rfl) (hw : swappedStores [.Tuple [.Name x px, .Name y py] kt pt] (.Tuple [e1, e2] k2 p2) X.env = pure (some [x, y]) := by rfl)
    (hs : swapsWithSole [.Tuple [.Name x px, .Name y py] kt pt] (.Tuple [e1, e2] k2 p2) pos.line X.env = pure false := by rfl) :
    PS X (.Assign [.Tuple [.Name x px, .Name y py] kt pt] (.Tuple [e1, e2] k2 p2) pos) (trS X.K Φ (.par [i, j] ca)) := ps_par hc hN hi hj hij hx hy ha hw hs
theorem s_par3 (i j l : Nat) {x y z : Str} {px py pz pt p2 : Pos} {kt k2} {e1 e2 e3 : Expr} (hN : X.N.Nodup) (hc : X.calm = true) (ha : PA X [e1, e2, e3] (trA X.K Φ ca)) (hi : X.N[i]? = some x := by rfl) (hj : X.N[j]? = some y := by rfl) (hl : X.N[l]? = some z := by rfl) (hij : i ≠ j := by decide) (hil : i ≠ l := by decide) (hjl : j ≠ l := by decide)
    (hx : X.env.scope.names.lookup x = some .local := by rfl) (hy : X.env.scope.names.lookup y = some .local := by rfl) (hz : X.env.scope.names.lookup z = some .local := by rfl) (hw : swappedStores [.Tuple [.Name x px, .Name y py, .Name z pz] kt pt] (.Tuple [e1, e2, e3] k2 p2) X.env = pure (some [x, y, z]) := by rfl)
    (hs : swapsWithSole [.Tuple [.Name x px, .Name y py, .Name z pz] kt pt] (.Tuple [e1, e2, e3] k2 p2) pos.line X.env = pure false := by rfl) :
    PS X (.Assign [.Tuple [.Name x px, .Name y py, .Name z pz] kt pt] (.Tuple [e1, e2, e3] k2 p2) pos) (trS X.K Φ (.par [i, j, l] ca)) := ps_par3 hc hN hi hj hl hij hil hjl hx hy hz ha hw hs
theorem s_setI (hr : Room k X.A) (he : PE X e (trE X.K Φ ce)) (ho : PE X o (trE X.K Φ co)) (ha : PE X a (trE X.K Φ ca)) (hs : swapsWithSole [.Subscript o a p] e pos.line X.env = pure false := by rfl) (hw : swappedStores [.Subscript o a p] e X.env = pure none := by rfl)
    (h1 : (assignEach [.Subscript o a p] X.env).map (·.2) = [assign (.Subscript o a p) X.env] := by rfl)
    (hsub : ∀ v, assign (.Subscript o a p) X.env v = (do
      let ov ← holding [v] (eval o X.env)
      let iv ← holding [v, ov] (eval a X.env)
      standAt p
      holding [v, ov, iv] (setItem ov iv v)
      release [v, ov, iv] []) := by intros; rfl) :
    PS X (.Assign [.Subscript o a p] e pos) (trS X.K Φ (.setI co ca ce)) := ps_asg he (pg_sub ho ha (set_all hr) hsub) hs hw h1
theorem ip_B : ∀ op : BOp, PIp X (bOp op) (ipB op)
  | .add => ip_add
  | .sub => ip_sub
  | .mul => fun _ _ _ _ _ _ _ _ _ _ _ _ h => h.elim
  | .fdiv => fun _ _ _ _ _ _ _ _ _ _ _ _ h => h.elim
  | .mod => fun _ _ _ _ _ _ _ _ _ _ _ _ h => h.elim
theorem s_aug (i : Nat) (op : BOp) {x : Str} (hN : X.N.Nodup) (he : PE X e (trE X.K Φ ce)) (hi : X.N[i]? = some x := by rfl) (hx : Loc X.env.scope x := by first | exact Or.inl rfl | exact Or.inr rfl)
    (hf : X.fn x = true ∨ X.env.scope.names.lookup x = some .local := by first | exact .inl rfl | exact .inr rfl | assumption) : PS X (.AugAssign (.Name x pos') (bOp op) e pos) (trS X.K Φ (.aug i op ce)) := ps_aug hN hi hx he (ip_B op) hf
theorem s_setF (i : Nat) {f : Str} {cs : List Nat} (hc : FldAt X.K Φ.cc cs f) (ho : PE X o (trE X.K Φ (.var i))) (he : PE X e (trE X.K Φ ce)) (hs : swapsWith e (some (.Attribute o f pos')) pos.line X.env = pure false := by rfl) : PS X (.Assign [.Attribute o f pos'] e pos) (trS X.K Φ (.setF i cs f ce)) := by
  refine ⟨fun pins s σ H D I h => ?_⟩
  replace h : sFldC Φ.cc cs (trE X.K Φ (.var i)) (trE X.K Φ ce) f D σ H := h
  refine plainObj_wpAny_Assign_Attribute (thn (he.run pins s σ H _ I h) fun u s1 ⟨y, H1, I1, ry, q⟩ => thn (ho.run pins s1 σ H1 _ I1 q) fun ov s2 ⟨x, H2, I2, rx, a, c, dx, fs, ex, ea, m, l, q2⟩ => ?_) hs
  subst ex
  obtain rfl : ov = Value.ref a := rx
  exact setattr_ok I2 ea (hc c m).1 (hc c m).2 l ry fun s3 I3 => ⟨σ, _, I3, q2⟩
theorem s_augF (i : Nat) {f : Str} {cs : List Nat} {tpos : Pos} (hc : FldAt X.K Φ.cc cs f) (ho : PE X o (trE X.K Φ (.var i))) (he : PE X e (trE X.K Φ ce)) : PS X (.AugAssign (.Attribute o f tpos) .Add e pos) (trS X.K Φ (.augF i cs f ce)) := by
  refine ⟨fun pins s σ H D I h => ?_⟩
  replace h : sFldAugC Φ.cc cs (trE X.K Φ (.var i)) (trE X.K Φ ce) f D σ H := h
  refine wpAny_AugAssign_AttributeAny (thn (ho.run pins s σ H _ I h) fun ov s1 ⟨x, H1, I1, rx, a, c, dx, fs, v, ex, ea, m, l, q⟩ => ?_)
  subst ex
  obtain rfl : ov = Value.ref a := rx
  refine getattr_ok I1 ea (hc c m).1 (hc c m).2 l fun u s2 I2 ru => thn (he.run pins s2 σ H1 _ I2 q) fun w3 s3 ⟨y, H2, I3, ry, q3⟩ => thn (in_add pins s3 σ H2 v y u w3 _ I3 ru ry q3) fun w4 s4 ⟨z, H3, I4, rz, c', dx', fs', ea', m', l', q4⟩ => ?_
  exact setattr_ok I4 ea' (hc c' m').1 (hc c' m').2 l' rz fun s5 I5 => ⟨σ, _, I5, q4⟩
theorem s_ex (he : PE X e (trE X.K Φ ce)) (hs : swapsWith e none pos.line X.env = pure false := by rfl) : PS X (.Expr e pos) (trS X.K Φ (.ex ce)) := ps_expr he hs
theorem s_ret (he : PE X e (trE X.K Φ ce)) : PS X (.Return (some e) pos) (trS X.K Φ (.ret ce)) := ps_ret he
theorem s_retN : PS X (.Return none pos) (trS X.K Φ .retN) := ps_retN
theorem s_if (hc : PT X c (trT X.K Φ cc)) (ha : PSs X ba (trS X.K Φ sa)) (hb : PSs X bb (trS X.K Φ sb)) : PS X (.If c ba bb pos) (trS X.K Φ (.ite cc sa sb)) := ps_if hc ha hb
theorem s_for {tg : Expr} {is : List Nat} (hp : PassesOwn (model X.prog X.w) X.A X.env X.xe) (hc : X.calm = true) (hi : PI X tg a (trI X.K Φ ca)) (hg : PG X tg (trG X.K is)) (hb : PSs X ba (trS X.K Φ sa)) (hs : ∀ x, foldedSetIterable a X.env x = pure x := by intro _; rfl) :
    PS X (.For tg a ba [] pos) (trS X.K Φ (.for_ ca is sa)) := ps_for hp hc hi hg hb hs
theorem s_whl (hp : PassesOwn (model X.prog X.w) X.A X.env X.xe) (hc : PT X c (trT X.K Φ cc)) (hb : PSs X ba (trS X.K Φ sa)) : PS X (.While c ba [] pos) (trS X.K Φ (.whl cc sa)) := ps_while hp hc hb
theorem s_brk : PS X (.Break pos) (trS X.K Φ .brk) := ps_break
theorem s_cnt : PS X (.Continue pos) (trS X.K Φ .cnt) := ps_continue
theorem s_never : PS X st (trS X.K Φ .never) := ps_never
end
end Dv
namespace Dv
open PySem PySem.Spec PyProof.Rows L2
/-! ### the evaluator over data -/
mutual
def D.toP : D → Option PyData
  | .non => some .none
  | .bl b => some (.bool b)
  | .int i => some (.int i)
  | .str s => some (.str s)
  | .lst xs => (toPs xs).map .list
  | .tup xs => (toPs xs).map .tuple
  | .dct _ _ => none
  | .obj _ _ _ => none
  | .scr ns => some (.list (ns.map .int))
  | .nw d => D.toP d
def toPs : List D → Option (List PyData)
  | [] => some []
  | x :: xs => (D.toP x).bind fun p => (toPs xs).map (p :: ·)
end
def fls (ds : List D) : Option (List V) := ds.mapM D.fl
def eqP (x y : D) : Option Bool :=
  (D.toP x).bind fun p => (D.toP y).bind fun q => if PyData.canLay0 p && PyData.canLay0 q && decide (p.depth ≤ 200) then some (PyData.eqv p q) else none
def eqD (x y : D) : Option Bool := match x.fl, y.fl with
  | some u, some v => if scal u v then some (decide (u = v)) else eqP x y
  | _, _ => eqP x y
def keyOf : D → Option Key
  | .int i => some (.inl i)
  | .str s => some (.inr s)
  | _ => none
/-- a dict by its keys and values -/
def valD : List Key → List D → Key → Option D
  | k :: ks, d :: ds, x => if k = x then some d else valD ks ds x
  | _, _, _ => none
def putD (ks : List Key) (ds : List D) (k : Key) (d : D) : List Key × List D :=
  if ks.any (fun j => decide (j = k)) then (ks, (ks.zip ds).map fun p => if p.1 = k then d else p.2) else (ks ++ [k], ds ++ [d])
def inFl (x : D) (ds : List D) : Option Bool := do
  let u ← x.fl
  let vs ← fls ds
  pure (inV u vs)
def inP (x : D) (ds : List D) : Option Bool := do
  let p ← D.toP x
  let qs ← toPs ds
  if SeqAt.shaped p && SeqAt.shaped (.list qs) then pure (qs.any fun z => PyData.eqv z p) else none
/-- a text of one sign -/
def signOf : D → Option Nat
  | .str s => (match s.cps.toList with
    | [c] => some c
    | _ => none)
  | _ => none
def inD (x : D) : D → Option Bool
  | .lst ds => (inFl x ds).or (inP x ds)
  | .tup ds => inFl x ds
  | .dct ks ds => (keyOf x).map fun k => (valD ks ds k).isSome
  | .str z => (signOf x).map fun c => decide (c ∈ z.cps.toList)
  | _ => none
def isN : D → Bool
  | .non => true
  | .nw d => isN d
  | _ => false
def ltD : D → D → Option Bool
  | .int i, .int j => some (decide (i < j))
  | .str s, .str t => some (decide (s.cps.toList < t.cps.toList))
  | _, _ => none
def ints2 (f : Int → Int → Bool) : D → D → Option Bool
  | .int i, .int j => some (f i j)
  | _, _ => none
def cmpD : COp → D → D → Option Bool
  | .eq => eqD
  | .ne => fun x y => (eqD x y).map not
  | .lt => ltD
  | .le => ints2 fun i j => decide (i ≤ j)
  | .gt => ints2 fun i j => decide (j < i)
  | .ge => ints2 fun i j => decide (j ≤ i)
  | .isin => inD
  | .notin => fun x y => (inD x y).map not
  | .isN => fun x y => if isN y then some (isN x) else none
  | .notN => fun x y => if isN y then some (!isN x) else none
def mulI (i j : Int) : Bool := (decide (-(2 ^ 64) < i) && decide (i < 2 ^ 64)) || (decide (-(2 ^ 64) < j) && decide (j < 2 ^ 64))
/-- the value, and whether it is a new list -/
def binD : BOp → D → D → Option (D × Bool)
  | .add, .int i, .int j => some (.int (i + j), false)
  | .add, .str s, .str t => if s.length + t.length ≤ sizeLine then some (.str (s ++ t), false) else none
  | .add, .lst xs, .lst ys => if xs.length + ys.length ≤ sizeLine then some (.lst (xs ++ ys), true) else none
  | .sub, .int i, .int j => some (.int (i - j), false)
  | .mul, .int i, .int j => if mulI i j then some (.int (i * j), false) else none
  | .mul, .lst xs, .int k => if -(2 ^ 63) ≤ k ∧ k < 2 ^ 63 ∧ xs.length * k.toNat ≤ sizeLine then some (.lst (List.replicate k.toNat xs).flatten, true) else none
  | .fdiv, .int i, .int j => if 0 < j ∧ j.natAbs.log2 < 9000 then some (.int (i / j), false) else none
  | .mod, .int i, .int j => if 0 < j then some (.int (i % j), false) else none
  | _, _, _ => none
def idxD : D → D → Option D
  | .lst ds, .int i => atI ds i
  | .tup ds, .int i => atI ds i
  | .scr ns, .int i => (atI ns i).map .int
  | .str s, .int i => if s.length ≤ sizeLine then (atI s.cps.toList i).map fun c => .str ⟨#[c]⟩ else none
  | .dct ks ds, .int i => valD ks ds (.inl i)
  | .dct ks ds, .str s => valD ks ds (.inr s)
  | _, _ => none
def cutL {α : Type} (xs : List α) (lo hi : Option Int) : List α := (xs.drop (HT.sIx xs.length 0 lo)).take (HT.sIx xs.length xs.length hi - HT.sIx xs.length 0 lo)
def slD (lo hi : Option Int) : D → Option (D × Bool)
  | .lst ds => some (.lst (cutL ds lo hi), true)
  | .scr ns => some (.lst (cutL (ns.map .int) lo hi), true)
  | .str s => if s.length ≤ sizeLine then some (.str (cutS s lo hi), false) else none
  | _ => none
def lenD : D → Option Nat
  | .lst ds => some ds.length
  | .tup ds => some ds.length
  | .scr ns => some ns.length
  | .str s => if s.length ≤ sizeLine then some s.length else none
  | .dct ks _ => some ks.length
  | _ => none
def toI : D → Option Int
  | .int i => some i
  | _ => none
def toB : D → Option Bool
  | .bl b => some b
  | _ => none
def toS : D → Option Str
  | .str b => some b
  | _ => none
def biD : Bi → List D → Option (D × Bool)
  | .len, [x] => (lenD x).map fun (n : Nat) => (D.int (n : Int), false)
  | .int1, [.int i] => some (.int i, false)
  | .int1, [.bl b] => some (.int (if b then 1 else 0), false)
  | .sum, [.lst ds] => (ds.mapM toI).map fun ns => (.int ns.sum, false)
  | .any, [.lst ds] => (ds.mapM toB).map fun bs => (.bl (bs.any id), false)
  | .all, [.lst ds] => (ds.mapM toB).map fun bs => (.bl (bs.all id), false)
  | .max2, [.int i, .int j] => some (.int (if j > i then j else i), false)
  | .min2, [.int i, .int j] => some (.int (if j < i then j else i), false)
  | .abs, [.int i] => some (.int (if i < 0 then -i else i), false)
  | .list1, [.lst ds] => some (.lst ds, true)
  | .list1, [.tup ds] => some (.lst ds, true)
  | .list1, [.scr ns] => some (.lst (ns.map .int), true)
  | _, _ => none
def tyD : D → Option String
  | .non => some "NoneType"
  | .bl _ => some "bool"
  | .int _ => some "int"
  | .str _ => some "str"
  | .lst _ => some "list"
  | .tup _ => some "tuple"
  | .dct _ _ => some "dict"
  | .obj _ _ _ => none
  | .scr _ => some "list"
  | .nw _ => none
/-- the built-in types that are asked for -/
def isTy (a b : String) : Option Bool :=
  if a ∈ ["NoneType", "bool", "int", "str", "list", "tuple", "dict"] ∧ b ∈ ["bool", "int", "str", "list", "tuple", "dict"] then some (a == b || (a == "bool" && b == "int")) else none
theorem isTy_kit {a b : String} {r : Bool} (h : isTy a b = some r) : kitB a b = some r := by
  have all : ∀ a ∈ ["NoneType", "bool", "int", "str", "list", "tuple", "dict"], ∀ b ∈ ["bool", "int", "str", "list", "tuple", "dict"], kitB a b = some (a == b || (a == "bool" && b == "int")) := by decide +kernel
  unfold isTy at h
  split at h
  · rename_i c
    rw [all a c.1 b c.2]
    exact h
  · cases h
def isiD (t : String) (d : D) : Option Bool := (tyD d).bind fun a => isTy a t
def firstIx (x : V) : List V → Option Nat
  | [] => none
  | y :: ys => if eqV y x then some 0 else (firstIx x ys).map (· + 1)
def bmD : Bm → D → List D → Option (D × Bool)
  | .join, .str a, [.lst ds] => (ds.mapM toS).bind fun ys => if (ys.map (·.length)).sum + ys.length * a.length ≤ 16777216 then some (.str (Txt.join a ys), false) else none
  | .index, .lst ds, [x] => do
    let u ← x.fl
    let vs ← fls ds
    let j ← firstIx u vs
    pure (.int j, false)
  | .startswith, .str a, [.str b] => some (.bl (Txt.startswith a b), false)
  | .sindex, .str a, [.str b] => (Builtin.Str.occurrences a b 0 a.length 1).head?.map fun (i : Nat) => (.int (i : Int), false)
  | _, _, _ => none
def truD : D → Option Bool
  | .non => some false
  | .bl b => some b
  | .int i => some (i != 0)
  | .str s => if s.length ≤ sizeLine then some ((s.length : Int) != 0) else none
  | .lst ds => some (!ds.isEmpty)
  | .tup ds => some (!ds.isEmpty)
  | .scr ns => some (!ns.isEmpty)
  | .dct _ _ => none
  | .obj _ _ _ => none
  | .nw _ => none
def keyD : Key → D
  | .inl i => .int i
  | .inr s => .str s
/-- the signs of a text -/
def signsD (s : Str) : List D := s.cps.toList.map fun c => .str ⟨#[c]⟩
def repD (y z : Str) : D → Option D
  | .str x => if x.length + (x.length + 1) * z.length ≤ 16777216 then some (.str (Txt.replace x y z)) else none
  | _ => none
def partD : D → D → Option (List D)
  | .str a, .str b => if (b.length == 0) = false ∧ a.length ≤ sizeLine then some [.str (Txt.partition a b).1, .str (Txt.partition a b).2.1, .str (Txt.partition a b).2.2] else none
  | _, _ => none
def isStr : D → Bool
  | .str _ => true
  | _ => false
def revD : D → Option D
  | .lst ds => some (.lst ds.reverse)
  | _ => none
/-- list(d.keys()) -/
def keysD : D → Option D
  | .dct ks _ => some (.lst (ks.map keyD))
  | _ => none
def strsD : List D → Option (List Str)
  | [] => some []
  | .str s :: r => (strsD r).map (s :: ·)
  | _ => none
def minDD : D → Option D
  | .lst ds => (ds.mapM toI).map fun ns => match minI ns with
    | none => .non
    | some m => .int m
  | _ => none
def lenSetD : D → Option D
  | .lst ds => (strsD ds).bind fun xs => if xs.length ≤ 4000 then some (.int (dst xs).length) else none
  | _ => none
/-- written keys, each once -/
def dspOk (ks : List (Str × Str)) : Bool := decide (ks.map (·.1)).Nodup && decide (ks.length ≤ 15)
/-- the list behind a change, and what the call hands back -/
def mutD : Mu → D → List D → Option (D × D)
  | .append, .lst ds, [x] => if ds.length < sizeLine then some (.lst (ds ++ [x]), .non) else none
  | .extend, .lst ds, [y] => (match y.un with
    | .lst es => if ds.length + es.length ≤ sizeLine then some (.lst (ds ++ es), .non) else none
    | _ => none)
  | .pop, .lst ds, [] => ds.getLast?.map fun x => (.lst ds.dropLast, x)
  | .popAt, .lst ds, [.int i] => if -(2 ^ 63) ≤ i ∧ i < 2 ^ 63 then (seqIndex? i ds.length).bind fun k => ds[k]?.map fun x => (.lst (ds.eraseIdx k), x) else none
  | .clear, .lst _, [] => some (.lst [], .non)
  | _, _, _ => none
/-- x[i] = y -/
def setD : D → D → D → Option D
  | .lst ds, .int i, y => (ixN ds.length i).map fun j => .lst (ds.set j y)
  | .dct ks ds, k, y => (keyOf k).bind fun k => if ks.length < sizeLine then some (.dct (putD ks ds k y).1 (putD ks ds k y).2) else none
  | _, _, _ => none
def bmTy : Bm → D → Bool
  | .join, .str _ => true
  | .index, .lst _ => true
  | .startswith, .str _ => true
  | .sindex, .str _ => true
  | _, _ => false
def isDct : D → Bool
  | .dct _ _ => true
  | _ => false
def getDct : D → D → Option (Option D)
  | .dct ks ds, y => (keyOf y).map fun k => valD ks ds k
  | _, _ => none
def isLst : Option (D × Bool) → Bool
  | some (.lst _, true) => true
  | _ => false
/-! ### the frame -/
abbrev Env := List (Option (D × Bool))
def Env.at (Γ : Env) (i : Nat) : Option (D × Bool) := Γ[i]?.join
/-- a value: shared, a new one's own top, or what the i-th name holds -/
inductive R where
  | sh (d : D) | ow (d : D) | bo (i : Nat)
def getR (Γ : Env) : R → Option D
  | .sh d => some d.un
  | .ow d => some d
  | .bo i => (Γ.at i).map (·.1.un)
def getRs (Γ : Env) (rs : List R) : Option (List D) := rs.mapM (getR Γ)
def mkR (p : D × Bool) : R := if p.2 then .ow p.1 else .sh p.1
/-- what the i-th name holds is shared from now on -/
def frz (lk : List Nat) (i : Nat) (Γ : Env) : Option Env := match Γ.at i with
  | some (d, true) => if i ∈ lk then none else some (Γ.set i (some (.nw d, false)))
  | some (_, false) => some Γ
  | none => none
def keepR (lk : List Nat) (r : R) (Γ : Env) : Option (D × Env) := match r with
  | .sh d => some (d, Γ)
  | .ow d => some (.nw d, Γ)
  | .bo i => (frz lk i Γ).bind fun Γ' => (Γ'.at i).map fun p => (p.1, Γ')
def keepRs (lk : List Nat) : List R → Env → Option (List D × Env)
  | [], Γ => some ([], Γ)
  | r :: rs, Γ => (keepR lk r Γ).bind fun p => (keepRs lk rs p.2).map fun q => (p.1 :: q.1, q.2)
structure Sig where
  /-- which parameters are lists that the call changes -/
  io : List Bool
  /-- nothing is changed, and what comes back has no parts: names that hold lists of their own keep them -/
  fl : Bool
abbrev Sem' := List D → Option (D × Bool × List D)
/-- the arguments that are not to be changed become shared -/
def argsF (lk : List Nat) : List Bool → List R → Env → Option Env
  | false :: io, .bo i :: rs, Γ => (frz lk i Γ).bind (argsF lk io rs)
  | _ :: io, _ :: rs, Γ => argsF lk io rs Γ
  | [], [], Γ => some Γ
  | _, _, _ => none
/-- those that are to be changed are lists of one's own -/
def argsOk (Γ : Env) : List Bool → List R → Bool
  | true :: io, .bo i :: rs => (match Γ.at i with | some (_, b) => b | none => false) && argsOk Γ io rs
  | true :: io, .ow _ :: rs => argsOk Γ io rs
  | true :: _, .sh _ :: _ => false
  | false :: io, _ :: rs => argsOk Γ io rs
  | _, _ => true
/-- the arguments' data -/
def argR (Γ : Env) : Bool → R → Option D
  | _, .sh d => some d
  | false, .ow d => some (.nw d)
  | true, .ow d => some d
  | _, .bo i => (Γ.at i).map (·.1)
def argRs (Γ : Env) : List Bool → List R → Option (List D)
  | b :: io, r :: rs => (argR Γ b r).bind fun d => (argRs Γ io rs).map (d :: ·)
  | [], [] => some []
  | _, _ => none
def ioVars : List Bool → List R → List Nat
  | true :: io, .bo i :: rs => i :: ioVars io rs
  | _ :: io, _ :: rs => ioVars io rs
  | _, _ => []
/-- what the changed ones hold behind the call -/
def putIos : List Bool → List R → List D → Env → Env
  | true :: io, .bo i :: rs, d :: ds, Γ => putIos io rs ds (Γ.set i (some (d, true)))
  | true :: io, _ :: rs, _ :: ds, Γ => putIos io rs ds Γ
  | false :: io, _ :: rs, ds, Γ => putIos io rs ds Γ
  | _, _, _, Γ => Γ
/-- an object by its attributes -/
def valN : List Str → List D → Str → Option D
  | k :: ks, d :: ds, x => if k = x then some d else valN ks ds x
  | _, _, _ => none
def fldD (cs : List Nat) (f : Str) : D → Option D
  | .obj c ns xs => if c ∈ cs then valN ns xs f else none
  | _ => none
def putN : List Str → List D → Str → D → List Str × List D
  | k :: ks, d :: ds, x, y => if k = x then (k :: ks, y :: ds) else (k :: (putN ks ds x y).1, d :: (putN ks ds x y).2)
  | _, _, x, y => ([x], [y])
def setFD (cs : List Nat) (f : Str) (y : D) : D → Option D
  | .obj c ns xs => if c ∈ cs ∧ ns.length < 1000 then some (.obj c (putN ns xs f y).1 (putN ns xs f y).2) else none
  | _ => none
/-- which def a method is -/
def methD (m : Str) (tbl : List (Nat × Nat)) : D → Option Nat
  | .obj c ns _ => if m ∈ ns then none else tbl.lookup c
  | _ => none
structure Cfg where
  sg : Nat → Sig
  φ : Nat → Sem'
  lk : List Nat
  fuel : Nat
  /-- what may be spoilt -/
  sp : List Nat → S → Env → Env → Bool := fun _ _ _ _ => false
def callD (g : Cfg) (f : Nat) (rs : List R) (Γ : Env) : Option (R × Env) :=
  if (g.sg f).fl then
    if rs.length = (g.sg f).io.length ∧ (g.sg f).io.all (fun b => !b) then
      (getRs Γ rs).bind fun ds => (g.φ f ds).bind fun p => if p.1.fl.isSome ∧ p.2.1 = false then some (.sh p.1, Γ) else none
    else none
  else
    (argsF g.lk (g.sg f).io rs Γ).bind fun Γ1 =>
      if argsOk Γ1 (g.sg f).io rs ∧ (ioVars (g.sg f).io rs).Nodup then
        (argRs Γ1 (g.sg f).io rs).bind fun ds => (g.φ f ds).bind fun p => if p.2.2.length = ((g.sg f).io.filter id).length then some (mkR (p.1, p.2.1), putIos (g.sg f).io rs p.2.2 Γ1) else none
      else none
/-- a new object: f fills its attributes in -/
def newD (g : Cfg) (c f : Nat) (rs : List R) (Γ : Env) : Option (R × Env) :=
  if (g.sg f).io.head? = some true ∧ (g.sg f).io.tail.all (fun b => !b) ∧ rs.length = (g.sg f).io.tail.length then
    (keepRs g.lk rs Γ).bind fun q => match g.φ f (.obj c [] [] :: q.1) with
      | some (.non, false, [x]) => some (.ow x, q.2)
      | _ => none
  else none
/-- a target: one name, or names for the items of a tuple -/
def setNs : List Nat → List D → Env → Option Env
  | [], [], Γ => some Γ
  | i :: is, d :: ds, Γ => if i < Γ.length then setNs is ds (Γ.set i (some (d, false))) else none
  | _, _, _ => none
def tupT (is : List Nat) (d : D) (Γ : Env) : Option Env := match d.un with
  | .tup ds => setNs is ds Γ
  | _ => none
def bindT (lk : List Nat) (tg : List Nat) (d : D) (Γ : Env) : Option Env :=
  if tg.any (lk.contains ·) then none else match tg with
  | [i] => if i < Γ.length then some (Γ.set i (some (d, false))) else none
  | is => tupT is d Γ
def wipeE (vs : List Nat) (Γ : Env) : Env := vs.foldl (fun Γ i => Γ.set i none) Γ
/-- the comprehension's own names as they were ahead of it -/
def backE (vs : List Nat) (Γ0 Γ : Env) : Env := vs.foldl (fun Γ i => Γ.set i (Γ0.at i)) Γ
def compL (tb : D → Env → Option (Option D × Env)) : List D → Env → Option (List D × Env)
  | [], Γ => some ([], Γ)
  | x :: xs, Γ => (tb x Γ).bind fun p => (compL tb xs p.2).map fun q => (p.1.toList ++ q.1, q.2)
structure Evr where
  e : Env → Option (R × Env)
  a : Env → Option (List R × Env)
  t : Env → Option (Bool × Env)
  o : Env → Option (Option Int × Env)
  i : Env → Option (List D × Env)
def no {α β : Type} : α → Option β := fun _ => none
def mkE (e : Env → Option (R × Env)) : Evr :=
  { e := e, a := no
    t := fun Γ => (e Γ).bind fun p => (getR p.2 p.1).bind fun d => (truD d).map fun b => (b, p.2)
    o := fun Γ => (e Γ).bind fun p => (getR p.2 p.1).bind fun d => (toI d).map fun i => (some i, p.2)
    i := no }
def getB (g : Cfg) (x : Env → Option (R × Env)) (Γ : Env) : Option (Bool × Env) := (x Γ).bind fun p => (getR p.2 p.1).bind fun d => (toB d).map fun b => (b, p.2)
def ev2 (x y : Env → Option (R × Env)) (Γ : Env) : Option (D × D × Env) :=
  (x Γ).bind fun p => (y p.2).bind fun q => (getR q.2 p.1).bind fun d => (getR q.2 q.1).map fun d' => (d, d', q.2)
def wkD : Wk → List Key → List D → List D
  | .keys, ks, _ => ks.map keyD
  | .vals, _, ds => ds
  | .items, ks, ds => List.zipWith (fun k d => D.tup [keyD k, d]) ks ds
/-- a name's dict, shared -/
def dctAt (Γ : Env) (i : Nat) : Option (List Key × List D) := match Γ.at i with
  | some (d, false) => (match d.un with
    | .dct ks ds => some (ks, ds)
    | _ => none)
  | _ => none
def rangeD (lo hi : Int) : List D := (List.range (hi - lo).toNat).map fun (k : Nat) => .int (lo + (k : Int))
def ev (g : Cfg) : E → Evr
  | .var i => mkE fun Γ => (Γ.at i).map fun p => (if p.2 then .bo i else .sh p.1, Γ)
  | .cst v => mkE fun Γ => (match v with | .non => some D.non | .bl b => some (.bl b) | .int i => some (.int i) | .str s => some (.str s) | _ => none).map fun d => (.sh d, Γ)
  | .bin o a b => mkE fun Γ => (ev2 (ev g a).e (ev g b).e Γ).bind fun p => (binD o p.1 p.2.1).map fun q => (mkR q, p.2.2)
  | .cmp o a b =>
    let c : Env → Option (Bool × Env) := fun Γ => (ev2 (ev g a).e (ev g b).e Γ).bind fun p => (cmpD o p.1 p.2.1).map fun q => (q, p.2.2)
    { mkE (fun Γ => (c Γ).map fun p => (.sh (.bl p.1), p.2)) with t := c }
  | .nt a => { mkE (fun Γ => (getB g (ev g a).e Γ).map fun p => (.sh (.bl (!p.1)), p.2)) with t := fun Γ => ((ev g a).t Γ).map fun p => (!p.1, p.2) }
  | .neg a => mkE fun Γ => ((ev g a).e Γ).bind fun p => (getR p.2 p.1).bind fun d => (toI d).map fun i => (.sh (.int (-i)), p.2)
  | .and_ a b => { mkE (fun Γ => (getB g (ev g a).e Γ).bind fun p => if p.1 then (ev g b).e p.2 else some (.sh (.bl false), p.2)) with
      t := fun Γ => ((ev g a).t Γ).bind fun p => if p.1 then (ev g b).t p.2 else some (false, p.2) }
  | .or_ a b => { mkE (fun Γ => (getB g (ev g a).e Γ).bind fun p => if p.1 then some (.sh (.bl true), p.2) else (ev g b).e p.2) with
      t := fun Γ => ((ev g a).t Γ).bind fun p => if p.1 then some (true, p.2) else (ev g b).t p.2 }
  | .andT a b => mkE fun Γ => ((ev g a).e Γ).bind fun p => (getR p.2 p.1).bind fun d => (truD d).bind fun c => if c then (ev g b).e p.2 else some p
  | .ite c a b => mkE fun Γ => ((ev g c).t Γ).bind fun p => if p.1 then (ev g a).e p.2 else (ev g b).e p.2
  | .nil => { mkE no with a := fun Γ => some ([], Γ) }
  | .cons a r => { mkE no with a := fun Γ => ((ev g a).e Γ).bind fun p => ((ev g r).a p.2).map fun q => (p.1 :: q.1, q.2) }
  | .lst as => mkE fun Γ => ((ev g as).a Γ).bind fun p => (keepRs g.lk p.1 p.2).bind fun q => if q.1.length ≤ sizeLine then some (.ow (.lst q.1), q.2) else none
  | .tup as => mkE fun Γ => ((ev g as).a Γ).bind fun p => (keepRs g.lk p.1 p.2).bind fun q => if q.1.length ≤ sizeLine then some (.sh (.nw (.tup q.1)), q.2) else none
  | .dnew => mkE fun Γ => some (.ow (.dct [] []), Γ)
  | .idx a b => mkE fun Γ => (ev2 (ev g a).e (ev g b).e Γ).bind fun p => (idxD p.1 p.2.1).map fun d => (.sh d, p.2.2)
  | .sl a lo hi => mkE fun Γ => ((ev g a).e Γ).bind fun p => ((ev g lo).o p.2).bind fun l => ((ev g hi).o l.2).bind fun h => (getR h.2 p.1).bind fun d => (slD l.1 h.1 d).map fun q => (mkR q, h.2)
  | .nopart => { mkE no with t := fun Γ => some (true, Γ), o := fun Γ => some (none, Γ) }
  | .bi f as => mkE fun Γ => ((ev g as).a Γ).bind fun p => (getRs p.2 p.1).bind fun ds => (biD f ds).map fun q => (mkR q, p.2)
  | .isi a t => mkE fun Γ => ((ev g a).e Γ).bind fun p => (getR p.2 p.1).bind fun d => (isiD t d).map fun b => (.sh (.bl b), p.2)
  | .keysL a => mkE fun Γ => ((ev g a).e Γ).bind fun p => (getR p.2 p.1).bind fun d => (keysD d).map fun z => (.ow z, p.2)
  | .minD a => mkE fun Γ => ((ev g a).e Γ).bind fun p => (getR p.2 p.1).bind fun d => (minDD d).map fun z => (.sh z, p.2)
  | .lenSet a => mkE fun Γ => ((ev g a).e Γ).bind fun p => (getR p.2 p.1).bind fun d => (lenSetD d).map fun z => (.sh z, p.2)
  | .dsp ks => mkE fun Γ => if dspOk ks then some (.ow (.dct (ks.map fun q => .inr q.1) (ks.map fun q => .str q.2)), Γ) else none
  | .rep a y z => mkE fun Γ => ((ev g a).e Γ).bind fun p => (getR p.2 p.1).bind fun d => (repD y z d).map fun v => (.sh v, p.2)
  | .partn a b => mkE fun Γ => ((ev g a).e Γ).bind fun p => (getR p.2 p.1).bind fun d0 => if isStr d0 then ((ev g b).e p.2).bind fun q => (getR q.2 p.1).bind fun d => (getR q.2 q.1).bind fun d' => (partD d d').map fun v => (.sh (.nw (.tup v)), q.2) else none
  | .revL a => mkE fun Γ => ((ev g a).e Γ).bind fun p => (getR p.2 p.1).bind fun d => (revD d).map fun v => (.ow v, p.2)
  | .bm m o as => mkE fun Γ => ((ev g o).e Γ).bind fun p => (getR p.2 p.1).bind fun d0 => if bmTy m d0 then ((ev g as).a p.2).bind fun q => (getR q.2 p.1).bind fun d => (getRs q.2 q.1).bind fun ds => (bmD m d ds).map fun z => (mkR z, q.2) else none
  | .get1 o k => mkE fun Γ => ((ev g o).e Γ).bind fun p => (getR p.2 p.1).bind fun d0 => if isDct d0 then ((ev g k).e p.2).bind fun q => (getR q.2 p.1).bind fun d => (getR q.2 q.1).bind fun y => (getDct d y).map fun z => (.sh (z.getD .non), q.2) else none
  | .get2 o k x => mkE fun Γ => ((ev g o).e Γ).bind fun p => (getR p.2 p.1).bind fun d0 => if isDct d0 then ((ev g k).e p.2).bind fun q => ((ev g x).e q.2).bind fun w => (getR w.2 p.1).bind fun d => (getR w.2 q.1).bind fun y => (getDct d y).bind fun z => (keepR g.lk w.1 w.2).map fun v => (.sh (z.getD v.1), v.2) else none
  | .mut m i as => mkE fun Γ => if isLst (Γ.at i) then ((ev g as).a Γ).bind fun p => (keepRs g.lk p.1 p.2).bind fun q => match q.2.at i with
      | some (d, true) => (mutD m d q.1).map fun z => (.sh z.2, q.2.set i (some (z.1, true)))
      | _ => none
    else none
  | .mutE m o as => mkE no
  | .call f as => mkE fun Γ => ((ev g as).a Γ).bind fun p => callD g f p.1 p.2
  | .fld cs o f => mkE fun Γ => ((ev g o).e Γ).bind fun p => (getR p.2 p.1).bind fun d => (fldD cs f d).map fun z => (.sh z, p.2)
  | .new c f as => mkE fun Γ => ((ev g as).a Γ).bind fun p => newD g c f p.1 p.2
  | .meth m tbl o as => mkE fun Γ => ((ev g o).e Γ).bind fun p => (getR p.2 p.1).bind fun d => (methD m tbl d).bind fun f => ((ev g as).a p.2).bind fun q => callD g f (p.1 :: q.1) q.2
  | .itRev as => { mkE no with i := fun Γ => ((ev g as).a Γ).bind fun p => (keepRs g.lk p.1 p.2).bind fun q => match q.1.map D.un with
      | [.lst ds] => some (ds.reverse, q.2)
      | _ => none }
  | .comp vs it tg c e => mkE fun Γ => ((ev g it).i Γ).bind fun p =>
      if vs.all (fun i => match p.2.at i with | some (_, true) => false | _ => true) ∧ tg.all (fun i => vs.contains i) ∧ vs.all (fun i => !g.lk.contains i) then
        (compL (fun x Γ1 => (bindT g.lk tg x Γ1).bind fun Γ2 => ((ev g c).t Γ2).bind fun b => if b.1 then
          ((ev g e).e b.2).bind fun r => (keepR g.lk r.1 r.2).map fun z => (some z.1, wipeE vs z.2) else some (none, wipeE vs b.2)) p.1 (wipeE vs p.2)).bind fun q =>
          if q.1.length ≤ sizeLine then some (.ow (.lst q.1), backE vs p.2 q.2) else none
      else none
  | .compV vs i tg c e => mkE fun Γ => match Γ.at i with
      | some (.lst ds, true) => if vs.all (fun j => match Env.at (Γ.set i none) j with | some (_, true) => false | _ => true) ∧ tg.all (fun i => vs.contains i) ∧ vs.all (fun i => !g.lk.contains i) then
        (compL (fun x Γ1 => (bindT g.lk tg x Γ1).bind fun Γ2 => ((ev g c).t Γ2).bind fun b => if b.1 then
          ((ev g e).e b.2).bind fun r => (keepR g.lk r.1 r.2).map fun z => (some z.1, wipeE vs z.2) else some (none, wipeE vs b.2)) ds (wipeE vs (Γ.set i none))).bind fun q =>
          if q.1.length ≤ sizeLine then some (.ow (.lst q.1), (backE vs (Γ.set i none) q.2).set i (some (.lst ds, true))) else none
      else none
      | _ => none
  | .compW w vs i tg c e => mkE fun Γ => (dctAt Γ i).bind fun kd =>
      if vs.all (fun i => match Γ.at i with | some (_, true) => false | _ => true) ∧ tg.all (fun i => vs.contains i) ∧ vs.all (fun i => !g.lk.contains i) then
        (compL (fun x Γ1 => (bindT g.lk tg x Γ1).bind fun Γ2 => ((ev g c).t Γ2).bind fun b => if b.1 then
          ((ev g e).e b.2).bind fun r => (keepR g.lk r.1 r.2).map fun z => (some z.1, wipeE vs z.2) else some (none, wipeE vs b.2)) (wkD w kd.1 kd.2) (wipeE vs Γ)).bind fun q =>
          if q.1.length ≤ sizeLine then some (.ow (.lst q.1), backE vs Γ q.2) else none
      else none
  | .itL e => { mkE no with i := fun Γ => ((ev g e).e Γ).bind fun p => (keepR g.lk p.1 p.2).bind fun q => match q.1.un with
      | .lst ds => some (ds, q.2)
      | .scr ns => some (ns.map .int, q.2)
      | _ => none }
  | .itT e => { mkE no with i := fun Γ => ((ev g e).e Γ).bind fun p => (keepR g.lk p.1 p.2).bind fun q => match q.1.un with
      | .tup ds => some (ds, q.2)
      | _ => none }
  | .itR1 as => { mkE no with i := fun Γ => ((ev g as).a Γ).bind fun p => (getRs p.2 p.1).bind fun ds => match ds with
      | [.int j] => if -(2 ^ 62) ≤ j ∧ j < 2 ^ 62 then some (rangeD 0 j, p.2) else none
      | _ => none }
  | .itR2 as => { mkE no with i := fun Γ => ((ev g as).a Γ).bind fun p => (getRs p.2 p.1).bind fun ds => match ds with
      | [.int i, .int j] => if -(2 ^ 62) ≤ i ∧ i < 2 ^ 62 ∧ -(2 ^ 62) ≤ j ∧ j < 2 ^ 62 then some (rangeD i j, p.2) else none
      | _ => none }
  | .itE as => { mkE no with i := fun Γ => ((ev g as).a Γ).bind fun p => (keepRs g.lk p.1 p.2).bind fun q => match q.1.map D.un with
      | [.lst ds] => some (ds.zipIdx.map (fun x => .tup [.int x.2, x.1]), q.2)
      | [.scr ns] => some (ns.zipIdx.map (fun x => .tup [.int x.2, .int x.1]), q.2)
      | _ => none }
  | .itS e => { mkE no with i := fun Γ => ((ev g e).e Γ).bind fun p => (getR p.2 p.1).bind fun d => match d with
      | .str s => some (signsD s, p.2)
      | _ => none }
/-! ### statements -/
inductive Out where
  | nx (Γ : Env) | bk (Γ : Env) | ct (Γ : Env) | rt (d : D) (b : Bool) (Γ : Env)
def forL (bd : D → Env → Option Env) (body : Env → Option Out) : List D → Env → Option Out
  | [], Γ => some (.nx Γ)
  | x :: xs, Γ => (bd x Γ).bind fun Γ1 => (body Γ1).bind fun o => match o with
    | .nx Γ2 => forL bd body xs Γ2
    | .ct Γ2 => forL bd body xs Γ2
    | .bk Γ2 => some (.nx Γ2)
    | .rt d b Γ2 => some (.rt d b Γ2)
def whlL (c : Env → Option (Bool × Env)) (body : Env → Option Out) : Nat → Env → Option Out
  | 0, _ => none
  | n + 1, Γ => (c Γ).bind fun p => if p.1 then (body p.2).bind fun o => match o with
    | .nx Γ2 => whlL c body n Γ2
    | .ct Γ2 => whlL c body n Γ2
    | .bk Γ2 => some (.nx Γ2)
    | .rt d b Γ2 => some (.rt d b Γ2) else some (.nx p.2)
/-- what is handed back -/
def retR (lk : List Nat) (r : R) (Γ : Env) : Option Out := match r with
  | .sh d => some (.rt d false Γ)
  | .ow d => some (.rt d true Γ)
  | .bo i => (Γ.at i).bind fun p => if p.2 then (if i ∈ lk then none else some (.rt p.1 true (Γ.set i none))) else some (.rt p.1 false Γ)
/-- x = r -/
def setR (lk : List Nat) (i : Nat) (r : R) (Γ : Env) : Option Env :=
  if i < Γ.length ∧ i ∉ lk then match r with
    | .sh d => some (Γ.set i (some (d, false)))
    | .ow d => some (Γ.set i (some (d, true)))
    | .bo j => (keepR lk (.bo j) Γ).map fun p => p.2.set i (some (p.1, false))
  else none
/-- x = r, shared -/
def setkR (lk : List Nat) (i : Nat) (r : R) (Γ : Env) : Option Env := if i < Γ.length ∧ i ∉ lk then (keepR lk r Γ).map fun p => p.2.set i (some (p.1, false)) else none
/-- an outcome, the i-th name put back -/
def Out.put (i : Nat) (x : Option (D × Bool)) : Out → Out
  | .nx Γ => .nx (Γ.set i x)
  | .bk Γ => .bk (Γ.set i x)
  | .ct Γ => .ct (Γ.set i x)
  | .rt d b Γ => .rt d b (Γ.set i x)
mutual
def D.clr : D → D
  | .nw d => d.clr
  | .lst xs => .lst (clrs xs)
  | .tup xs => .tup (clrs xs)
  | .dct ks xs => .dct ks (clrs xs)
  | .obj c ns xs => .obj c ns (clrs xs)
  | .non => .non
  | .bl b => .bl b
  | .int i => .int i
  | .str s => .str s
  | .scr ns => .scr ns
def clrs : List D → List D
  | [] => []
  | x :: xs => x.clr :: clrs xs
end
def frzAll (Γ : Env) : Env := Γ.map fun x => match x with
  | some (d, true) => some (.nw d, false)
  | x => x
def clrE (Γ : Env) : Env := Γ.map fun x => x.map fun p => (p.1.clr, p.2)
def others (n : Nat) (ws : List Nat) : List Nat := (List.range n).filter fun i => !ws.contains i
def scopeS (lk : List Nat) (ws : List Nat) (ok : Env → Env → Bool) (x : List Nat → Env → Option Out) (Γ : Env) : Option Out :=
  if lk = [] then (x (others Γ.length ws) (clrE (wipeE ws (frzAll Γ)))).bind fun o => match o with
    | .nx Γ' => if Γ'.length = Γ.length ∧ ok (wipeE ws (frzAll Γ)) Γ' then some (.nx (wipeE ws (frzAll Γ))) else none
    | .rt d false Γ' => if Γ'.length = Γ.length ∧ d.fl.isSome then some (.rt d false (wipeE ws (frzAll Γ))) else none
    | _ => none
  else none
def evS : Cfg → S → Env → Option Out
  | g, .skip, Γ => some (.nx Γ)
  | g, .seq a b, Γ => (evS g a Γ).bind fun o => match o with
    | .nx Γ1 => evS g b Γ1
    | o => some o
  | g, .set i e, Γ => ((ev g e).e Γ).bind fun p => (setR g.lk i p.1 p.2).map .nx
  | g, .setk i e, Γ => ((ev g e).e Γ).bind fun p => (setkR g.lk i p.1 p.2).map .nx
  | g, .unp tg e, Γ => ((ev g e).e Γ).bind fun p => (keepR g.lk p.1 p.2).bind fun q => if tg.any (g.lk.contains ·) then none else match q.1.un with
    | .tup ds => (setNs tg ds q.2).map .nx
    | _ => none
  | g, .par tg as, Γ => ((ev g as).a Γ).bind fun p => (keepRs g.lk p.1 p.2).bind fun q => if tg.any (g.lk.contains ·) then none else if tg.length = 2 ∨ tg.length = 3 then (setNs tg q.1 q.2).map .nx else none
  | g, .setI o i e, Γ => ((ev g e).e Γ).bind fun p => (keepR g.lk p.1 p.2).bind fun q => ((ev g o).e q.2).bind fun x => ((ev g i).e x.2).bind fun y => match x.1 with
    | .bo j => (match y.2.at j with
      | some (d, true) => (getR y.2 y.1).bind fun k => (setD d k q.1).map fun d' => .nx (y.2.set j (some (d', true)))
      | _ => none)
    | _ => none
  | g, .aug i o e, Γ => ((ev g e).e Γ).bind fun p => if i ∈ g.lk ∨ ¬ i < p.2.length then none else (match Γ.at i with
    | some (.int x, false) => (getR p.2 p.1).bind fun d => (toI d).bind fun y => (match o with
      | .add => some (.nx (p.2.set i (some (.int (x + y), false))))
      | .sub => some (.nx (p.2.set i (some (.int (x - y), false))))
      | _ => none)
    | _ => none)
  | g, .setF i cs f e, Γ => ((ev g e).e Γ).bind fun p => (keepR g.lk p.1 p.2).bind fun q => (match q.2.at i with
    | some (d, true) => (setFD cs f q.1 d).map fun d' => .nx (q.2.set i (some (d', true)))
    | _ => none)
  | g, .augF i cs f e, Γ => (match Γ.at i with
    | some (d0, true) => (fldD cs f d0).bind fun z0 => (toI z0).bind fun x => ((ev g e).e Γ).bind fun p => (getR p.2 p.1).bind fun z => (toI z).bind fun y => (match p.2.at i with
      | some (d, true) => (setFD cs f (.int (x + y)) d).map fun d' => .nx (p.2.set i (some (d', true)))
      | _ => none)
    | _ => none)
  | g, .ex e, Γ => ((ev g e).e Γ).map fun p => .nx p.2
  | g, .ret e, Γ => ((ev g e).e Γ).bind fun p => retR g.lk p.1 p.2
  | g, .retN, Γ => some (.rt .non false Γ)
  | g, .ite c a b, Γ => ((ev g c).t Γ).bind fun p => if p.1 then evS g a p.2 else evS g b p.2
  | g, .for_ it tg b, Γ => ((ev g it).i Γ).bind fun p => forL (bindT g.lk tg) (evS g b) p.1 p.2
  | g, .forV i tg b, Γ => (match Γ.at i with
    | some (.lst ds, true) => (forL (bindT (i :: g.lk) tg) (evS { g with lk := i :: g.lk } b) ds (Γ.set i none)).map (Out.put i (some (.lst ds, true)))
    | _ => none)
  | g, .forW w i tg b, Γ => (dctAt Γ i).bind fun kd => forL (bindT g.lk tg) (evS g b) (wkD w kd.1 kd.2) Γ
  | g, .scope ws b u, Γ => scopeS g.lk ws (g.sp ws u) (fun lk => evS { g with lk := lk } b) Γ
  | g, .whl c b, Γ => whlL (ev g c).t (evS g b) g.fuel Γ
  | g, .brk, Γ => some (.bk Γ)
  | g, .cnt, Γ => some (.ct Γ)
  | g, .never, _ => none
  | g, .raise _ _ _, _ => none
/-- a def: its parameters, its names in all -/
structure Fn where
  io : List Bool
  nl : Nat
  body : S
def lkFrom : Nat → List Bool → List Nat
  | _, [] => []
  | k, true :: io => k :: lkFrom (k + 1) io
  | k, false :: io => lkFrom (k + 1) io
def iosFrom : Nat → List Bool → Env → Option (List D)
  | _, [], _ => some []
  | k, true :: io, Γ => (match Γ.at k with
    | some (d, true) => some d
    | _ => none).bind fun d => (iosFrom (k + 1) io Γ).map (d :: ·)
  | k, false :: io, Γ => iosFrom (k + 1) io Γ
def lkOf (io : List Bool) : List Nat := lkFrom 0 io
def iosOf (io : List Bool) (Γ : Env) : Option (List D) := iosFrom 0 io Γ
def evF (g : Cfg) (f : Fn) : Sem' := fun ds =>
  if ds.length = f.io.length ∧ f.io.length ≤ f.nl then
    (evS { g with lk := lkOf f.io } f.body ((ds.zip f.io).map some ++ List.replicate (f.nl - f.io.length) none)).bind fun o => match o with
      | .nx Γ => (iosOf f.io Γ).map fun xs => (.non, false, xs)
      | .rt d b Γ => (iosOf f.io Γ).map fun xs => (d, b, xs)
      | _ => none
  else none
end Dv
namespace Dv
open PySem PySem.Spec L2
variable {cl : Ct}
/-! ### states -/
def SlotOk (cl : Ct) (M H : Hp) (d : D) (b : Bool) (v : V) : Prop :=
  if b then ∃ a o, v = .ref a ∧ M a = none ∧ H a = some o ∧ Top cl M d o else Rep cl M d v
/-- Γ tells what the names σ hold; M: what is shared and stays as it is -/
structure OkC (cl : Ct) (Γ : Env) (σ : St) (M H : Hp) : Prop where
  len : Γ.length = σ.length
  sub : Same M H
  slot : ∀ i d b, Γ.at i = some (d, b) → ∃ v, σ[i]? = some (some v) ∧ SlotOk cl M H d b v
  sep : ∀ i j d e a, Γ.at i = some (d, true) → Γ.at j = some (e, true) → σ[i]? = some (some (.ref a)) → σ[j]? = some (some (.ref a)) → i = j
def isOwn (Γ : Env) (σ : St) (a : Addr) : Prop := ∃ i d, Γ.at i = some (d, true) ∧ σ[i]? = some (some (.ref a))
structure OkS (cl : Ct) (Γ : Env) (σ : St) (M H : Hp) : Prop extends OkC cl Γ σ M H where
  fresh : ∀ a, H a = none → cl.N a
  ownN : ∀ a, isOwn Γ σ a → cl.N a
structure Fr (O : Addr → Prop) (M H M' H' : Hp) : Prop where
  keep : ∀ a o, H a = some o → ¬ O a → H' a = some o
  live : ∀ a, H a ≠ none → H' a ≠ none
  subM : Same M M'
  new : ∀ a, M a = none → M' a ≠ none → H a = none ∨ O a
theorem Fr.refl {O : Addr → Prop} {M H : Hp} : Fr O M H M H := ⟨fun _ _ h _ => h, fun _ h => h, Same.refl M, fun a h h' => absurd h h'⟩
theorem Fr.trans {O O1 : Addr → Prop} {M H M1 H1 M2 H2 : Hp} (a : Fr O M H M1 H1) (b : Fr O1 M1 H1 M2 H2) (h : ∀ a, O1 a → O a ∨ H a = none) : Fr O M H M2 H2 where
  keep := fun x o e n => b.keep x o (a.keep x o e n) fun q => (h x q).elim n fun z => by rw [z] at e; cases e
  live := fun x e => b.live x (a.live x e)
  subM := a.subM.trans b.subM
  new := fun x e e' => by
    by_cases q : M1 x = none
    · rcases b.new x q e' with z | z
      · refine .inl ?_
        cases r : H x with
        | none => rfl
        | some o => exact absurd z (a.live x (by rw [r]; exact fun z => nomatch z))
      · exact (h x z).symm
    · exact a.new x e q
/-- one step; what stands at O may be changed or shared -/
structure Stp (cl : Ct) (lk : List Nat) (O : Addr → Prop) (Γ : Env) (σ : St) (M H : Hp) (Γ' : Env) (σ' : St) (M' H' : Hp) : Prop where
  ok : OkS cl Γ' σ' M' H'
  fr : Fr O M H M' H'
  own : ∀ a, isOwn Γ' σ' a → O a ∨ H a = none
  lks : ∀ i, i ∈ lk → σ'[i]? = σ[i]?
  lkg : ∀ i d, i ∈ lk → Γ.at i = some (d, true) → ∃ d', Γ'.at i = some (d', true)
theorem Stp.mk' {lk : List Nat} {O : Addr → Prop} {Γ Γ' : Env} {σ σ' : St} {M H M' H' : Hp} (o : OkS cl Γ σ M H) (hO : ∀ a, O a → cl.N a) (c : OkC cl Γ' σ' M' H') (fr : Fr O M H M' H') (own : ∀ a, isOwn Γ' σ' a → O a ∨ H a = none)
    (lks : ∀ i, i ∈ lk → σ'[i]? = σ[i]?) (lkg : ∀ i d, i ∈ lk → Γ.at i = some (d, true) → ∃ d', Γ'.at i = some (d', true)) : Stp cl lk O Γ σ M H Γ' σ' M' H' :=
  ⟨⟨c, fun a h => o.fresh a (by
    cases r : H a with
    | none => rfl
    | some u => exact absurd h (fr.live a (by rw [r]; exact fun z => nomatch z))), fun a h => (own a h).elim (hO a) (o.fresh a)⟩, fr, own, lks, lkg⟩
theorem Stp.refl {lk : List Nat} {O : Addr → Prop} {Γ : Env} {σ : St} {M H : Hp} (o : OkS cl Γ σ M H) (h : ∀ a, isOwn Γ σ a → O a) : Stp cl lk O Γ σ M H Γ σ M H := ⟨o, Fr.refl, fun a q => .inl (h a q), fun _ _ => rfl, fun _ d _ h => ⟨d, h⟩⟩
theorem Stp.trans {lk : List Nat} {O O1 : Addr → Prop} {Γ Γ1 Γ2 : Env} {σ σ1 σ2 : St} {M H M1 H1 M2 H2 : Hp} (a : Stp cl lk O Γ σ M H Γ1 σ1 M1 H1) (b : Stp cl lk O1 Γ1 σ1 M1 H1 Γ2 σ2 M2 H2) (h : ∀ a, O1 a → O a ∨ H a = none) : Stp cl lk O Γ σ M H Γ2 σ2 M2 H2 where
  ok := b.ok
  fr := a.fr.trans b.fr h
  own := fun x q => (b.own x q).elim (h x) fun z => .inr (by
    cases r : H x with
    | none => rfl
    | some o => exact absurd z (a.fr.live x (by rw [r]; exact fun z => nomatch z)))
  lks := fun i q => (b.lks i q).trans (a.lks i q)
  lkg := fun i d q e => by
    obtain ⟨d1, e1⟩ := a.lkg i d q e
    exact b.lkg i d1 q e1
theorem none_of_live {M H M1 H1 : Hp} {O : Addr → Prop} (f : Fr O M H M1 H1) {a : Addr} (h : H1 a = none) : H a = none := by
  cases r : H a with
  | none => rfl
  | some o => exact absurd h (f.live a (by rw [r]; exact fun z => nomatch z))
theorem OkS.own_at {Γ : Env} {σ : St} {M H : Hp} (o : OkS cl Γ σ M H) {a : Addr} (h : isOwn Γ σ a) : M a = none ∧ H a ≠ none := by
  obtain ⟨i, d, e1, e2⟩ := h
  obtain ⟨v, e3, s⟩ := o.slot i d true e1
  rw [e2] at e3
  cases e3
  obtain ⟨b, ob, e, m, h, _⟩ := (show ∃ a o, _ = V.ref a ∧ M a = none ∧ H a = some o ∧ Top cl M d o from s)
  cases e
  exact ⟨m, by rw [h]; exact fun z => nomatch z⟩
theorem OkS.rep {Γ : Env} {σ : St} {M H : Hp} (o : OkS cl Γ σ M H) {i : Nat} {d : D} {b : Bool} (e : Γ.at i = some (d, b)) : ∃ v, σ[i]? = some (some v) ∧ Rep1 cl M H d.un v := by
  obtain ⟨v, e1, s⟩ := o.slot i d b e
  refine ⟨v, e1, ?_⟩
  cases b with
  | false => exact Rep.one o.sub s
  | true =>
    obtain ⟨a, ob, e, m, h, t⟩ := s
    have : d.un = d := by cases d <;> first | rfl | exact t.elim
    rw [this]
    exact .inr (.inl ⟨a, ob, e, h, t⟩)
/-! ### values -/
def RV (cl : Ct) (N : Addr → Prop) (Γ : Env) (σ : St) (M H : Hp) : R → V → Prop
  | .sh d, v => Rep cl M d v
  | .ow d, v => ∃ a o, v = .ref a ∧ M a = none ∧ H a = some o ∧ Top cl M d o ∧ N a ∧ ¬ isOwn Γ σ a
  | .bo i, v => σ[i]? = some (some v) ∧ ∃ x, Γ.at i = some x
/-- where a new list of one's own stands -/
def trk : R → V → Addr → Prop
  | .ow _, v, a => v = .ref a
  | _, _, _ => False
def RVs (cl : Ct) (Γ : Env) (σ : St) (M H : Hp) : (Addr → Prop) → List R → List V → Prop
  | _, [], vs => vs = []
  | N, r :: rs, vs => ∃ v us, vs = v :: us ∧ RV cl N Γ σ M H r v ∧ RVs cl Γ σ M H (fun a => N a ∧ ¬ trk r v a) rs us
theorem RV.imp {N N' : Addr → Prop} {Γ : Env} {σ : St} {M H : Hp} {r : R} {v : V} (h : RV cl N Γ σ M H r v) (n : ∀ a, N a → N' a) : RV cl N' Γ σ M H r v := by
  cases r with
  | sh d => exact h
  | ow d => obtain ⟨a, o, e, m, q, t, y, z⟩ := h; exact ⟨a, o, e, m, q, t, n a y, z⟩
  | bo i => exact h
theorem RVs.imp {Γ : Env} {σ : St} {M H : Hp} : ∀ {rs : List R} {vs : List V} {N N' : Addr → Prop}, RVs cl Γ σ M H N rs vs → (∀ a, N a → N' a) → RVs cl Γ σ M H N' rs vs
  | [], _, _, _, h, _ => h
  | r :: rs, _, N, N', ⟨v, us, e, a, b⟩, n => ⟨v, us, e, a.imp n, b.imp fun x q => ⟨n x q.1, q.2⟩⟩
/-- the names of Γ are names of Γ' -/
def Names' (Γ Γ' : Env) : Prop := ∀ i x, Γ.at i = some x → ∃ y, Γ'.at i = some y
theorem RV.step {N O : Addr → Prop} {lk : List Nat} {Γ Γ' : Env} {σ : St} {M H M' H' : Hp} {r : R} {v : V} (h : RV cl N Γ σ M H r v) (s : Stp cl lk O Γ σ M H Γ' σ M' H') (nm : Names' Γ Γ') (hO : ∀ a, O a → isOwn Γ σ a ∨ ¬ N a) : RV cl N Γ' σ M' H' r v := by
  cases r with
  | sh d => exact Rep.mono s.fr.subM h
  | ow d =>
    obtain ⟨a, o, e, m, q, t, y, z⟩ := h
    have nO : ¬ O a := fun k => (hO a k).elim z fun n => n y
    refine ⟨a, o, e, ?_, s.fr.keep a o q nO, t.mono s.fr.subM, y, fun w => ?_⟩
    · cases r : M' a with
      | none => rfl
      | some u =>
        rcases s.fr.new a m (by rw [r]; exact fun z => nomatch z) with k | k
        · rw [k] at q; cases q
        · exact (nO k).elim
    · rcases s.own a w with k | k
      · exact nO k
      · rw [k] at q; cases q
  | bo i =>
    obtain ⟨e, x, q⟩ := h
    exact ⟨e, nm i x q⟩
theorem RVs.step {O : Addr → Prop} {lk : List Nat} {Γ Γ' : Env} {σ : St} {M H M' H' : Hp} (s : Stp cl lk O Γ σ M H Γ' σ M' H') (nm : Names' Γ Γ') : ∀ {rs : List R} {vs : List V} {N : Addr → Prop}, (∀ a, O a → isOwn Γ σ a ∨ ¬ N a) → RVs cl Γ σ M H N rs vs → RVs cl Γ' σ M' H' N rs vs
  | [], _, _, _, h => h
  | r :: rs, _, N, hO, ⟨v, us, e, a, b⟩ => ⟨v, us, e, a.step s nm hO, RVs.step s nm (fun a k => (hO a k).imp id fun n q => n q.1) b⟩
theorem RV.alive {N : Addr → Prop} {Γ : Env} {σ : St} {M H : Hp} {r : R} {v : V} {a : Addr} (h : RV cl N Γ σ M H r v) (k : trk r v a) : H a ≠ none := by
  cases r with
  | sh d => exact k.elim
  | ow d => obtain ⟨b, ob, e, m, q, _⟩ := h; cases (show v = .ref a from k); cases e; rw [q]; exact fun z => nomatch z
  | bo i => exact k.elim
/-- what a value reads as -/
theorem RV.get {N : Addr → Prop} {Γ : Env} {σ : St} {M H : Hp} {r : R} {v : V} {d : D} (o : OkS cl Γ σ M H) (h : RV cl N Γ σ M H r v) (g : getR Γ r = some d) : Rep1 cl M H d v := by
  cases r with
  | sh e => cases g; exact Rep.one o.sub h
  | ow e => cases g; obtain ⟨a, ob, e, m, q, t, _⟩ := h; exact .inr (.inl ⟨a, ob, e, q, t⟩)
  | bo i =>
    obtain ⟨e, x, q⟩ := h
    have g' : (Γ.at i).map (·.1.un) = some d := g
    rw [q] at g'
    cases g'
    obtain ⟨u, e1, s⟩ := o.rep (d := x.1) (b := x.2) q
    rw [e] at e1
    cases e1
    exact s
def Rep1s (cl : Ct) (M H : Hp) : List D → List V → Prop
  | [], vs => vs = []
  | d :: ds, vs => ∃ v r, vs = v :: r ∧ Rep1 cl M H d v ∧ Rep1s cl M H ds r
theorem RVs.get {Γ : Env} {σ : St} {M H : Hp} (o : OkS cl Γ σ M H) : ∀ {rs : List R} {vs : List V} {N : Addr → Prop} {ds : List D}, RVs cl Γ σ M H N rs vs → getRs Γ rs = some ds → Rep1s cl M H ds vs
  | [], _, _, ds, h, g => by cases g; exact h
  | r :: rs, _, N, ds, ⟨v, us, e, a, b⟩, g => by
    unfold getRs at g
    rw [List.mapM_cons] at g
    cases e1 : getR Γ r with
    | none => rw [e1] at g; cases g
    | some d =>
      rw [e1] at g
      cases e2 : rs.mapM (getR Γ) with
      | none => rw [e2] at g; cases g
      | some es =>
        rw [e2] at g
        cases g
        exact ⟨v, us, e, a.get o e1, RVs.get o b e2⟩
theorem Rep1.reph {M H : Hp} (s : Same M H) {d : D} {v : V} (r : Rep1 cl M H d v) : Rep cl H d v := Rep1.rep (r.mono s (Same.refl H))
theorem Rep1s.reph {M H : Hp} (s : Same M H) : ∀ {ds : List D} {vs : List V}, Rep1s cl M H ds vs → Reps cl H ds vs
  | [], _, r => r
  | d :: ds, _, ⟨v, r, e, a, b⟩ => ⟨v, r, e, a.reph s, Rep1s.reph s b⟩
/-! ### sharing -/
theorem at_set_same {Γ : Env} {i : Nat} {x : Option (D × Bool)} (h : i < Γ.length) : Env.at (Γ.set i x) i = x := by
  unfold Env.at
  rw [List.getElem?_set_self h]
  rfl
theorem at_set_ne {Γ : Env} {i j : Nat} {x : Option (D × Bool)} (h : i ≠ j) : Env.at (Γ.set i x) j = Γ.at j := by
  unfold Env.at
  rw [List.getElem?_set_ne h]
theorem at_lt {Γ : Env} {i : Nat} {x : D × Bool} (h : Γ.at i = some x) : i < Γ.length := by
  unfold Env.at at h
  by_cases q : i < Γ.length
  · exact q
  · rw [List.getElem?_eq_none (by omega)] at h
    cases h
theorem upd_sub {M H : Hp} {a : Addr} {o : HO} (s : Same M H) (h : H a = some o) : Same (upd M a o) H := fun b u e => by
  by_cases q : b = a
  · subst q; rw [upd_same] at e; cases e; exact h
  · rw [upd_ne q] at e; exact s b u e
theorem upd_same_sub {M : Hp} {a : Addr} {o : HO} (h : M a = none) : Same M (upd M a o) := fun b u e => by
  rw [upd_ne (ne_of_none e h)]; exact e
theorem OkS.slots {Γ : Env} {σ : St} {M H : Hp} (o : OkS cl Γ σ M H) {a : Addr} {ob : HO} (m : M a = none) (hh : H a = some ob) (i : Nat) (hi : ∀ j d, Γ.at j = some (d, true) → σ[j]? = some (some (.ref a)) → j = i) (j : Nat) (d : D) (b : Bool) (e : Γ.at j = some (d, b)) (hj : j ≠ i ∨ ¬ isOwn Γ σ a) :
    ∃ v, σ[j]? = some (some v) ∧ SlotOk cl (upd M a ob) H d b v := by
  have sm := upd_same_sub (o := ob) m
  obtain ⟨u, e2, s2⟩ := o.slot j d b e
  refine ⟨u, e2, ?_⟩
  cases b with
  | false => exact Rep.mono sm s2
  | true =>
    obtain ⟨a2, o2, rfl, m2, h2, t2⟩ := (show ∃ a o, u = V.ref a ∧ M a = none ∧ H a = some o ∧ Top cl M d o from s2)
    refine ⟨a2, o2, rfl, ?_, h2, t2.mono sm⟩
    have hne : a2 ≠ a := fun z => by
      subst z
      rcases hj with k | k
      · exact k (hi j d e e2)
      · exact k ⟨j, d, e, e2⟩
    rw [upd_ne hne]
    exact m2
/-- the i-th name is shared from now on -/
theorem frz_ok {lk : List Nat} {Γ Γ' : Env} {σ : St} {M H : Hp} {i : Nat} (o : OkS cl Γ σ M H) (h : frz lk i Γ = some Γ') :
    ∃ M', Stp cl lk (isOwn Γ σ) Γ σ M H Γ' σ M' H ∧ Names' Γ Γ' ∧ ∀ d b, Γ.at i = some (d, b) → Γ'.at i = some (if b then .nw d else d, false) := by
  unfold frz at h
  cases e : Γ.at i with
  | none => rw [e] at h; cases h
  | some x =>
    obtain ⟨d, b⟩ := x
    rw [e] at h
    cases b with
    | false =>
      cases h
      exact ⟨M, Stp.refl o fun _ h => h, fun j x e' => ⟨x, e'⟩, fun d' b' e' => by cases e'; exact e⟩
    | true =>
      have h' : (if i ∈ lk then none else some (List.set Γ i (some (.nw d, false)))) = some Γ' := h
      by_cases hl : i ∈ lk
      · rw [if_pos hl] at h'; cases h'
      · rw [if_neg hl] at h'
        cases h'
        have hi := at_lt e
        obtain ⟨v, e1, s⟩ := o.slot i d true e
        obtain ⟨a, ob, rfl, m, hh, t⟩ := (show ∃ a o, _ = V.ref a ∧ M a = none ∧ H a = some o ∧ Top cl M d o from s)
        have sm := upd_same_sub (o := ob) m
        refine ⟨upd M a ob, Stp.mk' o o.ownN ⟨by rw [List.length_set]; exact o.len, upd_sub o.sub hh, fun j d' b' e' => ?_, fun j k d1 d2 x e1' e2' e3 e4 => ?_⟩ ⟨fun _ _ h _ => h, fun _ h => h, sm, fun x e' e2 => ?_⟩ (fun x ⟨j, d', e', e2⟩ => ?_) (fun _ _ => rfl) (fun j d' hj e' => ?_), fun j x e' => ?_, fun d' b' e' => ?_⟩
        · by_cases q : i = j
          · subst q
            rw [at_set_same hi] at e'
            cases e'
            exact ⟨_, e1, Rep.of_top upd_same (t.mono sm), a, rfl, o.ownN a ⟨i, d, e, e1⟩⟩
          · rw [at_set_ne q] at e'
            exact o.slots m hh i (fun k d2 e2 e3 => o.sep k i d2 d a e2 e e3 e1) j d' b' e' (.inl (Ne.symm q))
        · by_cases q : i = j
          · subst q; rw [at_set_same hi] at e1'; cases e1'
          · by_cases q2 : i = k
            · subst q2; rw [at_set_same hi] at e2'; cases e2'
            · rw [at_set_ne q] at e1'
              rw [at_set_ne q2] at e2'
              exact o.sep j k d1 d2 x e1' e2' e3 e4
        · by_cases q : x = a
          · subst q; exact .inr ⟨i, d, e, e1⟩
          · rw [upd_ne q] at e2; exact absurd e' e2
        · by_cases q : i = j
          · subst q; rw [at_set_same hi] at e'; cases e'
          · rw [at_set_ne q] at e'; exact .inl ⟨j, d', e', e2⟩
        · have q : i ≠ j := fun z => hl (z ▸ hj)
          exact ⟨d', by rw [at_set_ne q]; exact e'⟩
        · by_cases q : i = j
          · subst q; exact ⟨_, at_set_same hi⟩
          · exact ⟨x, by rw [at_set_ne q]; exact e'⟩
        · cases e'; exact at_set_same hi
theorem Names'.trans {Γ Γ1 Γ2 : Env} (a : Names' Γ Γ1) (b : Names' Γ1 Γ2) : Names' Γ Γ2 := fun i x e => by
  obtain ⟨y, e1⟩ := a i x e
  exact b i y e1
theorem Names'.refl {Γ : Env} : Names' Γ Γ := fun _ x e => ⟨x, e⟩
/-- a value is shared from now on -/
theorem keepR_ok {N : Addr → Prop} {lk : List Nat} {Γ Γ' : Env} {σ : St} {M H : Hp} {r : R} {v : V} {d : D} (o : OkS cl Γ σ M H) (hN : ∀ a, N a → cl.N a) (h : RV cl N Γ σ M H r v) (k : keepR lk r Γ = some (d, Γ')) :
    ∃ M', Stp cl lk (fun a => isOwn Γ σ a ∨ (N a ∧ trk r v a)) Γ σ M H Γ' σ M' H ∧ Names' Γ Γ' ∧ Rep cl M' d v := by
  cases r with
  | sh e => cases k; exact ⟨M, Stp.refl o fun _ h => .inl h, Names'.refl, h⟩
  | ow e =>
    cases k
    obtain ⟨a, ob, rfl, m, hh, t, n, no⟩ := h
    have sm := upd_same_sub (o := ob) m
    refine ⟨upd M a ob, Stp.mk' o (fun x z => z.elim (o.ownN x) fun w => hN x w.1) ⟨o.len, upd_sub o.sub hh, fun j d' b' e' => ?_, o.sep⟩ ⟨fun _ _ h _ => h, fun _ h => h, sm, fun x e' e2 => ?_⟩ (fun x h => .inl (.inl h)) (fun _ _ => rfl) (fun _ d _ h => ⟨d, h⟩), Names'.refl, Rep.of_top upd_same (t.mono sm), a, rfl, hN a n⟩
    · exact o.slots m hh j (fun k d2 e2 e3 => absurd ⟨k, d2, e2, e3⟩ no) j d' b' e' (.inr no)
    · by_cases q : x = a
      · subst q; exact .inr (.inr ⟨n, rfl⟩)
      · rw [upd_ne q] at e2; exact absurd e' e2
  | bo i =>
    obtain ⟨e, x, q⟩ := h
    obtain ⟨xd, xb⟩ := x
    have k' : ((frz lk i Γ).bind fun Γ' => (Γ'.at i).map fun p => (p.1, Γ')) = some (d, Γ') := k
    cases f : frz lk i Γ with
    | none => rw [f] at k'; cases k'
    | some Γ1 =>
      rw [f] at k'
      obtain ⟨M', s, nm, hs⟩ := frz_ok o f
      have k2 : ((Γ1.at i).map fun p => (p.1, Γ1)) = some (d, Γ') := k'
      rw [hs _ _ q] at k2
      cases k2
      refine ⟨M', ⟨s.ok, ⟨fun a o h n => s.fr.keep a o h fun z => n (.inl z), s.fr.live, s.fr.subM, fun a h h' => (s.fr.new a h h').imp id .inl⟩, fun a h => (s.own a h).imp .inl id, s.lks, s.lkg⟩, nm, ?_⟩
      obtain ⟨u, e1, s1⟩ := s.ok.slot i _ _ (hs _ _ q)
      rw [e] at e1
      cases e1
      exact s1
theorem Stp.imp {lk : List Nat} {O O' : Addr → Prop} {Γ Γ' : Env} {σ σ' : St} {M H M' H' : Hp} (s : Stp cl lk O Γ σ M H Γ' σ' M' H') (h : ∀ a, O a → O' a) : Stp cl lk O' Γ σ M H Γ' σ' M' H' :=
  ⟨s.ok, ⟨fun a o e n => s.fr.keep a o e fun z => n (h a z), s.fr.live, s.fr.subM, fun a e e' => (s.fr.new a e e').imp id (h a)⟩, fun a q => (s.own a q).imp (h a) id, s.lks, s.lkg⟩
theorem keepRs_ok {lk : List Nat} {σ : St} {H : Hp} : ∀ {rs : List R} {vs : List V} {N : Addr → Prop} {Γ Γ' : Env} {M : Hp} {ds : List D}, OkS cl Γ σ M H → (∀ a, N a → cl.N a) → RVs cl Γ σ M H N rs vs → keepRs lk rs Γ = some (ds, Γ') →
    ∃ M', Stp cl lk (fun a => isOwn Γ σ a ∨ N a) Γ σ M H Γ' σ M' H ∧ Names' Γ Γ' ∧ Reps cl M' ds vs
  | [], vs, N, Γ, Γ', M, ds, o, hN, h, k => by
    cases k
    exact ⟨M, Stp.refl o fun _ h => .inl h, Names'.refl, h⟩
  | r :: rs, vs, N, Γ, Γ', M, ds, o, hN, h, k => by
    obtain ⟨v, us, rfl, h1, h2⟩ := h
    have k' : ((keepR lk r Γ).bind fun p => (keepRs lk rs p.2).map fun q => (p.1 :: q.1, q.2)) = some (ds, Γ') := k
    cases e1 : keepR lk r Γ with
    | none => rw [e1] at k'; cases k'
    | some p =>
      obtain ⟨d, Γ1⟩ := p
      rw [e1] at k'
      have k2 : ((keepRs lk rs Γ1).map fun q => (d :: q.1, q.2)) = some (ds, Γ') := k'
      cases e2 : keepRs lk rs Γ1 with
      | none => rw [e2] at k2; cases k2
      | some q =>
        obtain ⟨es, Γ2⟩ := q
        rw [e2] at k2
        cases k2
        obtain ⟨M1, s1, nm1, r1⟩ := keepR_ok o hN h1 e1
        have h2' := h2.step s1 nm1 fun a q => q.imp id fun z y => y.2 z.2
        obtain ⟨M2, s2, nm2, r2⟩ := keepRs_ok s1.ok (fun a z => hN a z.1) h2' e2
        refine ⟨M2, (s1.imp fun a q => q.imp id And.left).trans s2 fun a q => ?_, nm1.trans nm2, Reps.cons (r1.mono s2.fr.subM) r2⟩
        rcases q with q | q
        · exact (s1.own a q).imp (fun z => z.imp id And.left) id
        · exact .inl (.inr q.1)
end Dv
namespace Dv
open PySem PySem.Spec L2
variable {cl : Ct}
/-! ### soundness of the expressions -/
/-- nothing that stands is changed or newly shared -/
abbrev Ext (M H M' H' : Hp) : Prop := Fr (fun _ => False) M H M' H' ∧ Same M' H'
theorem OkS.ext {Γ : Env} {σ : St} {M H M' H' : Hp} (o : OkS cl Γ σ M H) (e : Ext M H M' H') : OkS cl Γ σ M' H' := by
  refine ⟨⟨o.len, e.2, fun i d b q => ?_, o.sep⟩, fun a h => o.fresh a (none_of_live e.1 h), o.ownN⟩
  obtain ⟨v, e1, s⟩ := o.slot i d b q
  refine ⟨v, e1, ?_⟩
  cases b with
  | false => exact Rep.mono e.1.subM s
  | true =>
    obtain ⟨a, ob, rfl, m, h, t⟩ := (show ∃ a o, v = V.ref a ∧ M a = none ∧ H a = some o ∧ Top cl M d o from s)
    refine ⟨a, ob, rfl, ?_, e.1.keep a ob h fun z => z, t.mono e.1.subM⟩
    cases r : M' a with
    | none => rfl
    | some u =>
      rcases e.1.new a m (by rw [r]; exact fun z => nomatch z) with k | k
      · rw [k] at h; cases h
      · exact k.elim
theorem Stp.ext {lk : List Nat} {Γ : Env} {σ : St} {M H M' H' : Hp} {O : Addr → Prop} (o : OkS cl Γ σ M H) (e : Ext M H M' H') (h : ∀ a, isOwn Γ σ a → O a) : Stp cl lk O Γ σ M H Γ σ M' H' :=
  ⟨o.ext e, ⟨fun a o q _ => e.1.keep a o q fun z => z, e.1.live, e.1.subM, fun a q q' => (e.1.new a q q').imp id False.elim⟩, fun a q => .inl (h a q), fun _ _ => rfl, fun _ d _ h => ⟨d, h⟩⟩
theorem ext_own {M H : Hp} {p : Addr} {o : HO} (s : Same M H) (h : H p = none) : Ext M H M (upd H p o) :=
  ⟨⟨fun a u e _ => by rw [upd_ne (ne_of_none e h)]; exact e, fun a e => by
      by_cases q : a = p
      · subst q; rw [upd_same]; exact fun z => nomatch z
      · rw [upd_ne q]; exact e, Same.refl M, fun a e e' => absurd e e'⟩,
    fun a u e => by rw [upd_ne (ne_of_none (s a u e) h)]; exact s a u e⟩
theorem ext_sh {M H : Hp} {p : Addr} {o : HO} (s : Same M H) (h : H p = none) : Ext M H (upd M p o) (upd H p o) := by
  have m : M p = none := s.free h
  refine ⟨⟨(ext_own s h).1.keep, (ext_own s h).1.live, upd_same_sub m, fun a e e' => ?_⟩, fun a u e => ?_⟩
  · by_cases q : a = p
    · subst q; exact .inl h
    · rw [upd_ne q] at e'; exact absurd e e'
  · by_cases q : a = p
    · subst q; rw [upd_same] at e ⊢; exact e
    · rw [upd_ne q] at e ⊢; exact s a u e
theorem ext_refl {M H : Hp} (s : Same M H) : Ext M H M H := ⟨Fr.refl, s⟩
/-- the parts of a soundness statement -/
def PostE (cl : Ct) (lk : List Nat) (Γ : Env) (σ : St) (M H : Hp) (r : R) (Γ' : Env) (Q : VK) : Prop :=
  ∀ v M' H', Stp cl lk (isOwn Γ σ) Γ σ M H Γ' σ M' H' → Names' Γ Γ' → RV cl (fun a => H a = none) Γ' σ M' H' r v → Q v H'
def SndE (cl : Ct) (lk : List Nat) (te : TE) (x : Env → Option (R × Env)) : Prop :=
  ∀ Γ r Γ', x Γ = some (r, Γ') → ∀ σ M H, OkS cl Γ σ M H → ∀ Q : VK, PostE cl lk Γ σ M H r Γ' Q → te σ H Q
def SndA (cl : Ct) (lk : List Nat) (ta : TA) (x : Env → Option (List R × Env)) : Prop :=
  ∀ Γ rs Γ', x Γ = some (rs, Γ') → ∀ σ M H, OkS cl Γ σ M H → ∀ Q : List V → Hp → Prop,
    (∀ vs M' H', Stp cl lk (isOwn Γ σ) Γ σ M H Γ' σ M' H' → Names' Γ Γ' → RVs cl Γ' σ M' H' (fun a => H a = none) rs vs → Q vs H') → ta σ H Q
def SndT (cl : Ct) (lk : List Nat) (tt : TT) (x : Env → Option (Bool × Env)) : Prop :=
  ∀ Γ b Γ', x Γ = some (b, Γ') → ∀ σ M H, OkS cl Γ σ M H → ∀ Q : Bool → Hp → Prop, (∀ M' H', Stp cl lk (isOwn Γ σ) Γ σ M H Γ' σ M' H' → Names' Γ Γ' → Q b H') → tt σ H Q
def SndO (cl : Ct) (lk : List Nat) (to : TO) (x : Env → Option (Option Int × Env)) : Prop :=
  ∀ Γ b Γ', x Γ = some (b, Γ') → ∀ σ M H, OkS cl Γ σ M H → ∀ Q : Option Int → Hp → Prop, (∀ M' H', Stp cl lk (isOwn Γ σ) Γ σ M H Γ' σ M' H' → Names' Γ Γ' → Q b H') → to σ H Q
/-- J walks the items ds -/
def Walks (cl : Ct) (M : Hp) (J : It) (ds : List D) : Prop :=
  (∀ i d M1 H, Same M M1 → Same M1 H → ds[i]? = some d → J.go i H ∧ ∀ x H', J.yld i H x H' → ∃ M2, Ext M1 H M2 H' ∧ Rep cl M2 d x) ∧ ∀ H, Same M H → J.stop ds.length H
def SndI (cl : Ct) (lk : List Nat) (ti : TI) (x : Env → Option (List D × Env)) : Prop :=
  ∀ Γ ds Γ', x Γ = some (ds, Γ') → ∀ σ M H, OkS cl Γ σ M H → ∀ Q : It → Hp → Prop, (∀ J M' H', Stp cl lk (isOwn Γ σ) Γ σ M H Γ' σ M' H' → Names' Γ Γ' → Walks cl M' J ds → Q J H') → ti σ H Q
structure Snd (cl : Ct) (lk : List Nat) (rd : Rdg) (x : Evr) : Prop where
  e : SndE cl lk rd.e x.e
  a : SndA cl lk rd.a x.a
  t : SndT cl lk rd.t x.t
  o : SndO cl lk rd.o x.o
  i : SndI cl lk rd.i x.i
variable {lk : List Nat}
theorem bind_some' {α β : Type} {x : Option α} {f : α → Option β} {b : β} (h : x.bind f = some b) : ∃ a, x = some a ∧ f a = some b := by
  cases x with
  | none => cases h
  | some a => exact ⟨a, rfl, h⟩
theorem map_some' {α β : Type} {x : Option α} {f : α → β} {b : β} (h : x.map f = some b) : ∃ a, x = some a ∧ f a = b := by
  cases x with
  | none => cases h
  | some a => exact ⟨a, rfl, Option.some.inj h⟩
/-- a read value, in the heap -/
theorem RV.reph {N : Addr → Prop} {Γ : Env} {σ : St} {M H : Hp} {r : R} {v : V} {d : D} (o : OkS cl Γ σ M H) (h : RV cl N Γ σ M H r v) (g : getR Γ r = some d) : Rep cl H d v := (h.get o g).reph o.sub
theorem RVs.reph {N : Addr → Prop} {Γ : Env} {σ : St} {M H : Hp} {rs : List R} {vs : List V} {ds : List D} (o : OkS cl Γ σ M H) (h : RVs cl Γ σ M H N rs vs) (g : getRs Γ rs = some ds) : Reps cl H ds vs := (h.get o g).reph o.sub
theorem tru_rep {H : Hp} {d : D} {v : V} {b : Bool} (r : Rep cl H d v) (h : truD d = some b) : TruV cl.K v H b := by
  cases d with
  | non => cases r; cases h; rfl
  | bl x => cases r; cases h; rfl
  | int i => cases r; cases h; rfl
  | str s =>
    cases r
    have h' : (if s.length ≤ sizeLine then some ((s.length : Int) != 0) else none) = some b := h
    split at h'
    · rename_i q; cases h'; exact ⟨q, rfl⟩
    · cases h'
  | lst ds =>
    obtain ⟨a, vs, rfl, m, q⟩ := r
    cases h
    refine .inl ⟨vs, SqL.of m, ?_⟩
    cases ds <;> cases vs <;> first | rfl | (simp [Reps] at q)
  | tup ds =>
    obtain ⟨a, vs, rfl, m, q⟩ := r
    cases h
    refine .inr (.inl ⟨vs, SqT.of m, ?_⟩)
    cases ds <;> cases vs <;> first | rfl | (simp [Reps] at q)
  | dct ks ds => cases h
  | obj c ns ds => cases h
  | nw d => cases h
  | scr ns =>
    obtain ⟨a, rfl, m⟩ := r
    cases h
    refine .inl ⟨ns.map V.int, m, ?_⟩
    cases ns <;> rfl
theorem SndE.t {te : TE} {x : Env → Option (R × Env)} (h : SndE cl lk te x) : SndT cl lk (tTru cl.K te) (mkE x).t := by
  intro Γ b Γ' e σ M H o Q q
  obtain ⟨⟨r, Γ1⟩, e1, e2⟩ := bind_some' e
  obtain ⟨d, e3, e4⟩ := bind_some' e2
  obtain ⟨b', e5, e6⟩ := map_some' e4
  cases e6
  refine h Γ r _ e1 σ M H o _ fun v M' H' s nm rv => ?_
  exact ⟨_, tru_rep (rv.reph s.ok e3) e5, q M' H' s nm⟩
theorem SndE.o {te : TE} {x : Env → Option (R × Env)} (h : SndE cl lk te x) : SndO cl lk (tPart te) (mkE x).o := by
  intro Γ b Γ' e σ M H o Q q
  obtain ⟨⟨r, Γ1⟩, e1, e2⟩ := bind_some' e
  obtain ⟨d, e3, e4⟩ := bind_some' e2
  obtain ⟨b', e5, e6⟩ := map_some' e4
  cases e6
  refine h Γ r _ e1 σ M H o _ fun v M' H' s nm rv => ?_
  have k := rv.reph s.ok e3
  cases d <;> simp [toI] at e5
  subst e5
  cases k
  exact ⟨_, rfl, q M' H' s nm⟩
theorem snd_noA {ta : TA} : SndA cl lk ta no := fun _ _ _ e => nomatch e
theorem snd_noI {ti : TI} : SndI cl lk ti no := fun _ _ _ e => nomatch e
theorem snd_noE {ti : TE} : SndE cl lk ti no := fun _ _ _ e => nomatch e
theorem SndE.snd {te : TE} {x : Env → Option (R × Env)} (h : SndE cl lk te x) : Snd cl lk (mk cl.K te) (mkE x) := ⟨h, snd_noA, h.t, h.o, snd_noI⟩
theorem SndE.sndT {te : TE} {tt : TT} {x : Env → Option (R × Env)} {t : Env → Option (Bool × Env)} (h : SndE cl lk te x) (ht : SndT cl lk tt t) : Snd cl lk (mkT te tt) { mkE x with t := t } := ⟨h, snd_noA, ht, h.o, snd_noI⟩
theorem snd_mkET {t : Env → Option (Bool × Env)} {tt : TT} (h : (mkE no).t = t) : SndT cl lk tt t := by
  subst h
  intro Γ b Γ' e
  cases e
theorem snd_mkEO {to : TO} : SndO cl lk to (mkE no).o := fun Γ b Γ' e => by cases e
theorem SndA.snd {ta : TA} {x : Env → Option (List R × Env)} (h : SndA cl lk ta x) : Snd cl lk (mkA ta) { mkE no with a := x } := ⟨snd_noE, h, snd_mkET rfl, snd_mkEO, snd_noI⟩
theorem SndI.snd {ti : TI} {x : Env → Option (List D × Env)} (h : SndI cl lk ti x) : Snd cl lk (mkI ti) { mkE no with i := x } := ⟨snd_noE, snd_noA, snd_mkET rfl, snd_mkEO, h⟩
/-! ### two operands -/
theorem snd_two {ta tb : TE} {x y : Env → Option (R × Env)} (ha : SndE cl lk ta x) (hb : SndE cl lk tb y) {Γ Γ' : Env} {d d' : D} (e : ev2 x y Γ = some (d, d', Γ')) {σ : St} {M H : Hp} (o : OkS cl Γ σ M H) {Q : V → V → Hp → Prop}
    (q : ∀ u v M' H', Stp cl lk (isOwn Γ σ) Γ σ M H Γ' σ M' H' → Names' Γ Γ' → Rep1 cl M' H' d u → Rep1 cl M' H' d' v → Q u v H') : ta σ H fun u H1 => tb σ H1 fun v H2 => Q u v H2 := by
  obtain ⟨⟨r, Γ1⟩, e1, e2⟩ := bind_some' e
  obtain ⟨⟨r2, Γ2⟩, e3, e4⟩ := bind_some' e2
  obtain ⟨d1, e5, e6⟩ := bind_some' e4
  obtain ⟨d2, e7, e8⟩ := map_some' e6
  cases e8
  refine ha Γ r Γ1 e1 σ M H o _ fun u M1 H1 s1 n1 r1 => ?_
  refine hb Γ1 r2 Γ2 e3 σ M1 H1 s1.ok _ fun v M2 H2 s2 n2 r2 => ?_
  exact q u v M2 H2 (s1.trans s2 s1.own) (n1.trans n2) ((r1.step s2 n2 fun a h => .inl h).get s2.ok e5) (r2.get s2.ok e7)
/-! ### the pieces -/
theorem sh_ext {Γ : Env} {σ : St} {M H : Hp} {N : Addr → Prop} {d : D} {v : V} (h : Rep cl M d v) : RV cl N Γ σ M H (.sh d) v := h
/-- a new object of one's own -/
theorem Stp.new {Γ Γ' : Env} {σ : St} {M H M1 H1 : Hp} {p : Addr} {o : HO} {d : D} (s : Stp cl lk (isOwn Γ σ) Γ σ M H Γ' σ M1 H1) (hp : H1 p = none) (t : Top cl M1 d o) :
    Stp cl lk (isOwn Γ σ) Γ σ M H Γ' σ M1 (upd H1 p o) ∧ RV cl (fun a => H a = none) Γ' σ M1 (upd H1 p o) (.ow d) (.ref p) := by
  have e := ext_own (o := o) s.ok.sub hp
  refine ⟨s.trans (Stp.ext s.ok e fun a h => h) s.own, p, o, rfl, s.ok.sub.free hp, upd_same, t, none_of_live s.fr hp, fun w => (s.ok.own_at w).2 hp⟩
theorem Stp.newSh {Γ Γ' : Env} {σ : St} {M H M1 H1 : Hp} {p : Addr} {o : HO} {d : D} (s : Stp cl lk (isOwn Γ σ) Γ σ M H Γ' σ M1 H1) (hp : H1 p = none) (t : Top cl M1 d o) :
    Stp cl lk (isOwn Γ σ) Γ σ M H Γ' σ (upd M1 p o) (upd H1 p o) ∧ Rep cl (upd M1 p o) d (.ref p) := by
  have e := ext_sh (o := o) s.ok.sub hp
  exact ⟨s.trans (Stp.ext s.ok e fun a h => h) s.own, Rep.of_top upd_same (t.mono e.1.subM)⟩
theorem snd_var {i : Nat} : SndE cl lk (tVar i) (fun Γ => (Γ.at i).map fun p => (if p.2 then .bo i else .sh p.1, Γ)) := by
  intro Γ r Γ' e σ M H o Q q
  obtain ⟨⟨d, b⟩, e1, e2⟩ := map_some' e
  cases e2
  obtain ⟨v, e3, s⟩ := o.slot i d b e1
  refine ⟨v, e3, q v M H (Stp.refl o fun _ h => h) Names'.refl ?_⟩
  cases b with
  | false => exact s
  | true => exact ⟨e3, _, e1⟩
theorem Stp.rfl' {Γ : Env} {σ : St} {M H : Hp} (o : OkS cl Γ σ M H) : Stp cl lk (isOwn Γ σ) Γ σ M H Γ σ M H := Stp.refl o fun _ h => h
theorem snd_cst {v : V} : SndE cl lk (tC v) (fun Γ => (match v with | .non => some D.non | .bl b => some (.bl b) | .int i => some (.int i) | .str s => some (.str s) | _ => none).map fun d => (.sh d, Γ)) := by
  intro Γ r Γ' e σ M H o Q q
  obtain ⟨d, e1, e2⟩ := map_some' e
  cases e2
  refine q v M H (Stp.rfl' o) Names'.refl ?_
  cases v <;> cases e1 <;> rfl
end Dv
namespace Dv
open PySem PySem.Spec L2
variable {cl : Ct} {lk : List Nat}
/-! ### operations on values -/
/-- what must follow where the value is d (own: a new list) -/
structure ResQ (cl : Ct) (M H : Hp) (d : D) (b : Bool) (Q : VK) : Prop where
  old : b = false → ∀ w, Rep cl M d w → Q w H
  new : ∀ p o, H p = none → Top cl M d o → Q (.ref p) (upd H p o)
theorem post_res {Γ Γ' : Env} {σ : St} {M H M1 H1 : Hp} {p : D × Bool} {Q : VK} (s : Stp cl lk (isOwn Γ σ) Γ σ M H Γ' σ M1 H1) (nm : Names' Γ Γ') (q : PostE cl lk Γ σ M H (mkR p) Γ' Q) : ResQ cl M1 H1 p.1 p.2 Q := by
  obtain ⟨d, b⟩ := p
  refine ⟨fun e w r => ?_, fun a o hp t => ?_⟩
  · cases e
    exact q w M1 H1 s nm r
  · cases b with
    | true =>
      obtain ⟨s2, r⟩ := s.new hp t
      exact q _ _ _ s2 nm r
    | false =>
      obtain ⟨s2, r⟩ := s.newSh hp t
      exact q _ _ _ s2 nm r
theorem r1_int {M H : Hp} {i : Int} {v : V} (r : Rep1 cl M H (.int i) v) : v = .int i := by
  rcases r with r | ⟨a, o, e, m, t⟩ | ⟨ns, a, e, _⟩ | ⟨_, _, _, _, _, e, _⟩
  · exact (Option.some.inj r).symm
  · exact t.elim
  · cases e
  · cases e
theorem r1_str {M H : Hp} {i : Str} {v : V} (r : Rep1 cl M H (.str i) v) : v = .str i := by
  rcases r with r | ⟨a, o, e, m, t⟩ | ⟨ns, a, e, _⟩ | ⟨_, _, _, _, _, e, _⟩
  · exact (Option.some.inj r).symm
  · exact t.elim
  · cases e
  · cases e
theorem r1_bl {M H : Hp} {i : Bool} {v : V} (r : Rep1 cl M H (.bl i) v) : v = .bl i := by
  rcases r with r | ⟨a, o, e, m, t⟩ | ⟨ns, a, e, _⟩ | ⟨_, _, _, _, _, e, _⟩
  · exact (Option.some.inj r).symm
  · exact t.elim
  · cases e
  · cases e
theorem r1_lst {M H : Hp} {ds : List D} {v : V} (r : Rep1 cl M H (.lst ds) v) : ∃ a vs, v = .ref a ∧ H a = some (.lst vs) ∧ Reps cl M ds vs := by
  rcases r with r | ⟨a, o, e, m, t⟩ | ⟨ns, a, e, _⟩ | ⟨_, _, _, _, _, e, _⟩
  · cases r
  · obtain ⟨vs, rfl, q⟩ := t
    exact ⟨a, vs, e, m, q⟩
  · cases e
  · cases e
theorem r1_tup {M H : Hp} {ds : List D} {v : V} (r : Rep1 cl M H (.tup ds) v) : ∃ a vs, v = .ref a ∧ H a = some (.tup vs) ∧ Reps cl M ds vs := by
  rcases r with r | ⟨a, o, e, m, t⟩ | ⟨ns, a, e, _⟩ | ⟨_, _, _, _, _, e, _⟩
  · cases r
  · obtain ⟨vs, rfl, q⟩ := t
    exact ⟨a, vs, e, m, q⟩
  · cases e
  · cases e
theorem r1_dct {M H : Hp} {ks : List Key} {ds : List D} {v : V} (r : Rep1 cl M H (.dct ks ds) v) : ∃ a kvs, v = .ref a ∧ Rd H a (.dK kvs) ∧ kvs.map (·.1) = ks ∧ Reps cl M ds (kvs.map (·.2)) := by
  rcases r with r | ⟨a, o, e, m, t⟩ | ⟨ns, a, e, _⟩ | ⟨_, _, a, o, kvs, e, e2, m, q⟩
  · cases r
  · obtain ⟨vs, rfl, q⟩ := t
    exact ⟨a, vs, e, .inl m, q⟩
  · cases e
  · cases e
    exact ⟨a, kvs, e2, .inr ⟨o, m⟩, q⟩
theorem r1_scr {M H : Hp} {ns : List Int} {v : V} (r : Rep1 cl M H (.scr ns) v) : ∃ a, v = .ref a ∧ SqL cl.K H a (ns.map V.int) := by
  rcases r with r | ⟨a, o, e, m, t⟩ | ⟨ns', a, e, e2, m⟩ | ⟨_, _, _, _, _, e, _⟩
  · cases r
  · exact t.elim
  · cases e; exact ⟨a, e2, m⟩
  · cases e
theorem mulI_ok {i j : Int} (h : mulI i j = true) : CMul i j := by
  unfold mulI at h
  simp only [Bool.or_eq_true, Bool.and_eq_true, decide_eq_true_eq] at h
  exact h
theorem Reps.flat {M : Hp} : ∀ {k : Nat} {ds : List D} {vs : List V}, Reps cl M ds vs → Reps cl M (List.replicate k ds).flatten (List.replicate k vs).flatten
  | 0, _, _, _ => Reps.nil
  | k + 1, _, _, r => by
    rw [List.replicate_succ, List.replicate_succ, List.flatten_cons, List.flatten_cons]
    exact Reps.append r (Reps.flat r)
theorem bin_ok {M H : Hp} {o : BOp} {x y d : D} {b : Bool} {u v : V} {Q : VK} (ru : Rep1 cl M H x u) (rv : Rep1 cl M H y v) (h : binD o x y = some (d, b)) (q : ResQ cl M H d b Q) : rB o u v H Q := by
  cases o with
  | add =>
    cases x <;> cases y <;> try (cases h; done)
    · cases h; cases r1_int ru; cases r1_int rv
      exact .inl ⟨_, _, rfl, rfl, q.old rfl _ rfl⟩
    · rename_i s t
      cases r1_str ru; cases r1_str rv
      have h' : (if s.length + t.length ≤ sizeLine then some (D.str (s ++ t), false) else none) = some (d, b) := h
      split at h'
      · rename_i z
        cases h'
        exact .inr (.inl ⟨_, _, rfl, rfl, z, q.old rfl _ rfl⟩)
      · cases h'
    · rename_i xs ys
      obtain ⟨a1, v1, rfl, m1, p1⟩ := r1_lst ru
      obtain ⟨a2, v2, rfl, m2, p2⟩ := r1_lst rv
      have h' : (if xs.length + ys.length ≤ sizeLine then some (D.lst (xs ++ ys), true) else none) = some (d, b) := h
      split at h'
      · rename_i z
        cases h'
        refine .inr (.inr ⟨a1, a2, v1, v2, rfl, rfl, m1, m2, by rw [← p1.length, ← p2.length]; exact z, fun p hp => q.new p _ hp ⟨_, rfl, p1.append p2⟩⟩)
      · cases h'
  | sub =>
    cases x <;> cases y <;> try (cases h; done)
    cases h; cases r1_int ru; cases r1_int rv
    exact ⟨_, _, rfl, rfl, q.old rfl _ rfl⟩
  | mul =>
    cases x <;> cases y <;> try (cases h; done)
    · rename_i i j
      cases r1_int ru; cases r1_int rv
      have h' : (if mulI i j = true then some (D.int (i * j), false) else none) = some (d, b) := h
      split at h'
      · rename_i z
        cases h'
        exact .inl ⟨_, _, rfl, rfl, mulI_ok z, q.old rfl _ rfl⟩
      · cases h'
    · rename_i xs k
      obtain ⟨a1, v1, rfl, m1, p1⟩ := r1_lst ru
      cases r1_int rv
      have h' : (if -(2 ^ 63) ≤ k ∧ k < 2 ^ 63 ∧ xs.length * k.toNat ≤ sizeLine then some (D.lst (List.replicate k.toNat xs).flatten, true) else none) = some (d, b) := h
      split at h'
      · rename_i z
        cases h'
        exact .inr ⟨a1, k, v1, rfl, rfl, m1, z.1, z.2.1, by rw [← p1.length]; exact z.2.2, fun p hp => q.new p _ hp ⟨_, rfl, p1.flat⟩⟩
      · cases h'
  | fdiv =>
    cases x <;> cases y <;> try (cases h; done)
    rename_i i j
    cases r1_int ru; cases r1_int rv
    have h' : (if 0 < j ∧ j.natAbs.log2 < 9000 then some (D.int (i / j), false) else none) = some (d, b) := h
    split at h'
    · rename_i z
      cases h'
      exact ⟨_, _, rfl, rfl, z, q.old rfl _ rfl⟩
    · cases h'
  | mod =>
    cases x <;> cases y <;> try (cases h; done)
    rename_i i j
    cases r1_int ru; cases r1_int rv
    have h' : (if 0 < j then some (D.int (i % j), false) else none) = some (d, b) := h
    split at h'
    · rename_i z
      cases h'
      exact ⟨_, _, rfl, rfl, z, q.old rfl _ rfl⟩
    · cases h'
/-! equality -/
mutual
theorem rep_dp {H : Hp} : ∀ {d : D} {v : V} {p : PyData}, Rep cl H d v → D.toP d = some p → Dp cl.K H v p
  | .non, _, _, r, e => by cases r; cases e; exact .non
  | .bl b, _, _, r, e => by cases r; cases e; exact .bl b
  | .int b, _, _, r, e => by cases r; cases e; exact .int b
  | .str b, _, _, r, e => by cases r; cases e; exact .str b
  | .lst ds, _, p, ⟨a, vs, rfl, m, r⟩, e => by
    have e' : (toPs ds).map PyData.list = some p := by unfold D.toP at e; exact e
    obtain ⟨ps, e1, rfl⟩ := map_some' e'
    exact .lst (SqL.of m) (reps_dp r e1)
  | .tup ds, _, p, ⟨a, vs, rfl, m, r⟩, e => by
    have e' : (toPs ds).map PyData.tuple = some p := by unfold D.toP at e; exact e
    obtain ⟨ps, e1, rfl⟩ := map_some' e'
    exact .tup (SqT.of m) (reps_dp r e1)
  | .dct _ _, _, _, _, e => by unfold D.toP at e; cases e
  | .obj _ _ _, _, _, _, e => by unfold D.toP at e; cases e
  | .nw d, _, p, r, e => rep_dp (d := d) r.1 (by unfold D.toP at e; exact e)
  | .scr ns, _, p, ⟨a, rfl, m⟩, e => by
    unfold D.toP at e
    cases e
    refine .lst m ?_
    clear m
    induction ns with
    | nil => exact .nil
    | cons n ns ih => exact .cons (.int n) ih
theorem reps_dp {H : Hp} : ∀ {ds : List D} {vs : List V} {ps : List PyData}, Reps cl H ds vs → toPs ds = some ps → DpAll cl.K H vs ps
  | [], _, _, r, e => by cases r; unfold toPs at e; cases e; exact .nil
  | d :: ds, _, ps, ⟨v, us, rfl, r, q⟩, e => by
    have e' : ((D.toP d).bind fun p => (toPs ds).map (p :: ·)) = some ps := by unfold toPs at e; exact e
    obtain ⟨p, e1, e2⟩ := bind_some' e'
    obtain ⟨qs, e3, rfl⟩ := map_some' e2
    exact .cons (rep_dp r e1) (reps_dp q e3)
end
theorem eqP_ok {H : Hp} {x y : D} {b : Bool} {u v : V} (ru : Rep cl H x u) (rv : Rep cl H y v) (h : eqP x y = some b) : ∃ d e, Dp cl.K H u d ∧ Dp cl.K H v e ∧ PyData.canLay0 d = true ∧ PyData.canLay0 e = true ∧ d.depth ≤ 200 ∧ PyData.eqv d e = b := by
  obtain ⟨p, e1, h⟩ := bind_some' h
  obtain ⟨q, e2, h⟩ := bind_some' h
  split at h
  · rename_i c
    cases h
    simp only [Bool.and_eq_true, decide_eq_true_eq] at c
    exact ⟨p, q, rep_dp ru e1, rep_dp rv e2, c.1.1, c.1.2, c.2, rfl⟩
  · cases h
theorem eqD_ok {H : Hp} {x y : D} {b : Bool} {u v : V} (ru : Rep cl H x u) (rv : Rep cl H y v) (h : eqD x y = some b) :
    (scal u v = true ∧ decide (u = v) = b) ∨ ∃ d e, Dp cl.K H u d ∧ Dp cl.K H v e ∧ PyData.canLay0 d = true ∧ PyData.canLay0 e = true ∧ d.depth ≤ 200 ∧ PyData.eqv d e = b := by
  cases e1 : x.fl with
  | none => exact .inr (eqP_ok ru rv (by unfold eqD at h; rw [e1] at h; exact h))
  | some u' =>
    cases e2 : y.fl with
    | none => exact .inr (eqP_ok ru rv (by unfold eqD at h; rw [e1, e2] at h; exact h))
    | some v' =>
      cases ru.fl e1
      cases rv.fl e2
      unfold eqD at h
      rw [e1, e2] at h
      have h' : (if scal u v = true then some (decide (u = v)) else eqP x y) = some b := h
      split at h'
      · rename_i c; cases h'; exact .inl ⟨c, rfl⟩
      · exact .inr (eqP_ok ru rv h')
/-! flat items -/
theorem fl_flat {d : D} {v : V} (h : d.fl = some v) : flatV v = true := by cases d <;> cases h <;> rfl
theorem fls_reps {H : Hp} : ∀ {ds : List D} {vs us : List V}, Reps cl H ds us → fls ds = some vs → us = vs ∧ vs.all flatV = true
  | [], vs, us, r, e => by cases r; cases e; exact ⟨rfl, rfl⟩
  | d :: ds, vs, us, ⟨v, r, h0, a, b⟩, e => by
    subst h0
    unfold fls at e
    rw [List.mapM_cons] at e
    obtain ⟨x, e1, e2⟩ := bind_some' e
    obtain ⟨xs, e3, e4⟩ := bind_some' e2
    cases e4
    obtain ⟨rfl, f⟩ := fls_reps b e3
    refine ⟨by rw [a.fl e1], ?_⟩
    rw [List.all_cons, fl_flat e1, f]
    rfl
theorem keyOf_rep {H : Hp} {d : D} {k : Key} {v : V} (r : Rep cl H d v) (h : keyOf d = some k) : v = kV k := by
  cases d <;> cases h <;> (cases r; rfl)
theorem valD_some {M : Hp} : ∀ {kvs : List (Key × V)} {ds : List D} {k : Key} {d : D}, Reps cl M ds (kvs.map (·.2)) → valD (kvs.map (·.1)) ds k = some d → ∃ v, valV kvs k = some v ∧ Rep cl M d v
  | [], ds, k, d, r, e => by cases ds <;> cases e
  | (j, v) :: kvs, [], k, d, r, e => by cases e
  | (j, v) :: kvs, x :: ds, k, d, ⟨u, us, e1, a, b⟩, e => by
    injection e1 with e1 e2
    subst e1 e2
    have e' : (if j = k then some x else valD (kvs.map (·.1)) ds k) = some d := e
    by_cases c : j = k
    · rw [if_pos c] at e'
      cases e'
      exact ⟨v, valV_pos (p := (j, v)) c, a⟩
    · rw [if_neg c] at e'
      obtain ⟨w, h1, h2⟩ := valD_some b e'
      exact ⟨w, by rw [valV_neg (p := (j, v)) c]; exact h1, h2⟩
theorem valD_isSome {M : Hp} : ∀ {kvs : List (Key × V)} {ds : List D} {k : Key}, Reps cl M ds (kvs.map (·.2)) → (valD (kvs.map (·.1)) ds k).isSome = (valV kvs k).isSome
  | [], ds, k, r => by cases ds <;> rfl
  | (j, v) :: kvs, [], k, r => by cases r
  | (j, v) :: kvs, x :: ds, k, ⟨u, us, e1, a, b⟩ => by
    injection e1 with e1 e2
    subst e1 e2
    show (if j = k then some x else valD (kvs.map (·.1)) ds k).isSome = _
    by_cases c : j = k
    · rw [if_pos c, valV_pos (p := (j, v)) c]; rfl
    · rw [if_neg c, valV_neg (p := (j, v)) c]; exact valD_isSome b
theorem putD_ok {M : Hp} {kvs : List (Key × V)} {ds : List D} {k : Key} {d : D} {v : V} (r : Reps cl M ds (kvs.map (·.2))) (rv : Rep cl M d v) :
    (putK kvs k v).map (·.1) = (putD (kvs.map (·.1)) ds k d).1 ∧ Reps cl M (putD (kvs.map (·.1)) ds k d).2 ((putK kvs k v).map (·.2)) := by
  have any : (kvs.map (·.1)).any (fun j => decide (j = k)) = kvs.any fun kv => decide (kv.1 = k) := by rw [List.any_map]; rfl
  unfold putD putK
  rw [any]
  split
  · refine ⟨?_, ?_⟩
    · rw [List.map_map]
      refine List.map_congr_left fun p _ => ?_
      show (if p.1 = k then (p.1, v) else p).1 = p.1
      split <;> rfl
    · show Reps cl M (((kvs.map (·.1)).zip ds).map fun p => if p.1 = k then d else p.2) _
      clear any
      rename_i c
      clear c
      induction kvs generalizing ds with
      | nil => cases ds with
        | nil => exact Reps.nil
        | cons x xs => cases r; rename_i h; obtain ⟨_, h, _⟩ := h; cases h
      | cons p ps ih =>
        cases ds with
        | nil => cases r
        | cons x xs =>
          obtain ⟨u, us, e1, a, b⟩ := r
          injection e1 with e1 e2
          subst e1 e2
          show Reps cl M ((if p.1 = k then d else x) :: _) ((if p.1 = k then (p.1, v) else p).2 :: _)
          refine Reps.cons ?_ (ih b)
          split
          · exact rv
          · exact a
  · refine ⟨?_, ?_⟩
    · rw [List.map_append]; rfl
    · show Reps cl M (ds ++ [d]) _
      rw [List.map_append]
      exact r.append (Reps.cons rv Reps.nil)
theorem inD_ok {M H : Hp} {x y : D} {b : Bool} {u v : V} (s : Same M H) (ru : Rep1 cl M H x u) (rv : Rep1 cl M H y v) (h : inD x y = some b) (neg : Bool) (Q : VK) (q : Q (.bl (if neg then !b else b)) H) :
    rIn cl.K neg u v H Q ∨ (if neg then rDnot u v H Q else rDin u v H Q) ∨ (if neg then rNotInD cl.K u v H Q else rInD cl.K u v H Q) ∨ (if neg then rNotInS u v H Q else rInS u v H Q) := by
  have inFlat : ∀ {ds : List D} {a : Addr} {vs : List V}, Reps cl M ds vs → (SqL cl.K H a vs ∨ SqT cl.K H a vs) → v = .ref a → inFl x ds = some b → rIn cl.K neg u v H Q := fun {ds a vs} r hs e f => by
    obtain ⟨u', e1, f⟩ := bind_some' f
    obtain ⟨vs', e2, f⟩ := bind_some' f
    cases f
    obtain ⟨rfl, al⟩ := fls_reps r e2
    cases (ru.reph s).fl e1
    subst e
    exact ⟨a, vs, rfl, hs, fl_flat e1, al, q⟩
  cases y with
  | lst ds =>
    obtain ⟨a, vs, e, m, r⟩ := r1_lst rv
    have h' : (inFl x ds).or (inP x ds) = some b := h
    cases f : inFl x ds with
    | some b' =>
      rw [f] at h'
      cases h'
      exact .inl (inFlat r (.inl (SqL.of m)) e f)
    | none =>
      rw [f] at h'
      have h2 : inP x ds = some b := h'
      obtain ⟨p, e1, h2⟩ := bind_some' h2
      obtain ⟨qs, e2, h2⟩ := bind_some' h2
      split at h2
      · rename_i c
        cases h2
        simp only [Bool.and_eq_true] at c
        have d1 : Dp cl.K H u p := rep_dp (ru.reph s) e1
        have d2 : Dp cl.K H v (.list qs) := rep_dp (rv.reph s) (by unfold D.toP; rw [e2]; rfl)
        refine .inr (.inr (.inl ?_))
        cases neg with
        | true => exact ⟨p, qs, d1, d2, c.1, c.2, q⟩
        | false => exact ⟨p, qs, d1, d2, c.1, c.2, q⟩
      · cases h2
  | tup ds =>
    obtain ⟨a, vs, e, m, r⟩ := r1_tup rv
    exact .inl (inFlat r (.inr (SqT.of m)) e h)
  | dct ks ds =>
    obtain ⟨a, kvs, e, m, e2, r⟩ := r1_dct rv
    obtain ⟨k, e1, e3⟩ := map_some' h
    subst e2 e3
    rw [valD_isSome r] at q
    cases keyOf_rep (ru.reph s) e1
    refine .inr (.inl ?_)
    cases neg with
    | true => exact ⟨a, _, e, dget_r m, q⟩
    | false => exact ⟨a, _, e, dget_r m, q⟩
  | str z =>
    obtain ⟨c, e1, e3⟩ := map_some' h
    subst e3
    refine .inr (.inr (.inr ?_))
    have ev : v = .str z := r1_str rv
    have eu : u = .str ⟨#[c]⟩ := by
      cases x <;> try (cases e1; done)
      rename_i t
      have eu : u = .str t := r1_str ru
      have e1' : (match t.cps.toList with | [c] => some c | _ => none) = some c := e1
      rw [eu]
      congr 1
      cases ht : t.cps.toList with
      | nil => rw [ht] at e1'; cases e1'
      | cons y l =>
        rw [ht] at e1'
        cases l with
        | cons _ _ => cases e1'
        | nil =>
          cases e1'
          obtain ⟨a⟩ := t
          congr 1
          exact Array.ext' ht
    cases neg with
    | true => exact ⟨c, z, eu, ev, q⟩
    | false => exact ⟨c, z, eu, ev, q⟩
  | _ => cases h
theorem rep_isN {H : Hp} : ∀ {d : D} {v : V}, Rep cl H d v → isN d = decide (v = .non)
  | .nw d, v, r => rep_isN (d := d) r.1
  | .non, v, r => by cases r; rfl
  | .bl b, v, r => by cases r; rfl
  | .int b, v, r => by cases r; rfl
  | .str b, v, r => by cases r; rfl
  | .lst ds, v, r => by obtain ⟨a, vs, rfl, _⟩ := r; rfl
  | .tup ds, v, r => by obtain ⟨a, vs, rfl, _⟩ := r; rfl
  | .dct ks ds, v, r => by obtain ⟨a, vs, rfl, _⟩ := r; rfl
  | .obj c ns ds, v, r => by obtain ⟨a, dx, vs, rfl, _⟩ := r; rfl
  | .scr ns, v, r => by obtain ⟨a, rfl, _⟩ := r; rfl
theorem ints2_ok {H : Hp} {x y : D} {b : Bool} {u v : V} {f : Int → Int → Bool} (ru : Rep cl H x u) (rv : Rep cl H y v) (h : ints2 f x y = some b) : ∃ i j, u = .int i ∧ v = .int j ∧ f i j = b := by
  cases x <;> cases y <;> cases h
  exact ⟨_, _, ru, rv, rfl⟩
theorem cmp_ok {M H : Hp} {o : COp} {x y : D} {b : Bool} {u v : V} {Q : VK} (s : Same M H) (ru : Rep1 cl M H x u) (rv : Rep1 cl M H y v) (h : cmpD o x y = some b) (q : Q (.bl b) H) : rC cl.K o u v H Q := by
  have ru' := ru.reph s
  have rv' := rv.reph s
  cases o with
  | eq =>
    rcases eqD_ok  ru' rv' h with ⟨c, e⟩ | ⟨d, e, h1, h2, h3, h4, h5, h6⟩
    · exact .inl ⟨c, by rw [e]; exact q⟩
    · exact .inr ⟨d, e, h1, h2, h3, h4, h5, by rw [h6]; exact q⟩
  | ne =>
    obtain ⟨c, e1, e2⟩ := map_some' h
    subst e2
    rcases eqD_ok  ru' rv' e1 with ⟨c, e⟩ | ⟨d, e, h1, h2, h3, h4, h5, h6⟩
    · exact .inl ⟨c, by rw [e]; exact q⟩
    · exact .inr ⟨d, e, h1, h2, h3, h4, h5, by rw [h6]; exact q⟩
  | lt =>
    cases x <;> cases y <;> cases h
    · cases ru'; cases rv'
      exact .inl ⟨_, _, rfl, rfl, q⟩
    · cases ru'; cases rv'
      exact .inr ⟨_, _, rfl, rfl, q⟩
  | le => obtain ⟨i, j, rfl, rfl, e⟩ := ints2_ok ru' rv' h; exact ⟨i, j, rfl, rfl, by show Q (.bl (decide (i ≤ j))) H; rw [show decide (i ≤ j) = b from e]; exact q⟩
  | gt => obtain ⟨i, j, rfl, rfl, e⟩ := ints2_ok ru' rv' h; exact ⟨i, j, rfl, rfl, by show Q (.bl (decide (j < i))) H; rw [show decide (j < i) = b from e]; exact q⟩
  | ge => obtain ⟨i, j, rfl, rfl, e⟩ := ints2_ok ru' rv' h; exact ⟨i, j, rfl, rfl, by show Q (.bl (decide (j ≤ i))) H; rw [show decide (j ≤ i) = b from e]; exact q⟩
  | isin => exact inD_ok s ru rv h false Q q
  | notin =>
    obtain ⟨c, e1, e2⟩ := map_some' h
    subst e2
    exact inD_ok s ru rv e1 true Q q
  | isN =>
    have h' : (if isN y = true then some (isN x) else none) = some b := h
    split at h'
    · rename_i c
      cases h'
      rw [rep_isN rv', decide_eq_true_eq] at c
      exact ⟨c, by rw [← rep_isN ru']; exact q⟩
    · cases h'
  | notN =>
    have h' : (if isN y = true then some (!isN x) else none) = some b := h
    split at h'
    · rename_i c
      cases h'
      rw [rep_isN rv', decide_eq_true_eq] at c
      exact ⟨c, by rw [← rep_isN ru']; exact q⟩
    · cases h'
end Dv
namespace Dv
open PySem PySem.Spec L2
variable {cl : Ct} {lk : List Nat}
theorem atI_get' {α : Type} {xs : List α} {i : Int} {v : α} (h : atI xs i = some v) : ∃ j, ixN xs.length i = some j ∧ xs[j]? = some v := bind_some' h
theorem atI_of {α β : Type} {xs : List α} {ys : List β} {i : Int} {j : Nat} {v : β} (hl : xs.length = ys.length) (h : ixN xs.length i = some j) (e : ys[j]? = some v) : atI ys i = some v := by
  unfold atI
  rw [← hl, h]
  exact e
theorem atI_reps {M : Hp} {ds : List D} {vs : List V} {i : Int} {d : D} (r : Reps cl M ds vs) (h : atI ds i = some d) : ∃ v, atI vs i = some v ∧ Rep cl M d v := by
  obtain ⟨j, e1, e2⟩ := atI_get' h
  obtain ⟨v, e3, q⟩ := r.get e2
  exact ⟨v, atI_of r.length e1 e3, q⟩
theorem atI_map {α β : Type} {f : α → β} {xs : List α} {i : Int} {v : α} (h : atI xs i = some v) : atI (xs.map f) i = some (f v) := by
  obtain ⟨j, e1, e2⟩ := atI_get' h
  exact atI_of (by rw [List.length_map]) e1 (by rw [List.getElem?_map, e2]; rfl)
theorem idx_ok {M H : Hp} {x y d : D} {u v : V} {Q : VK} (s : Same M H) (ru : Rep1 cl M H x u) (rv : Rep1 cl M H y v) (h : idxD x y = some d) (q : ∀ w, Rep cl M d w → Q w H) : rIdx cl.K u v H Q := by
  cases x <;> cases y <;> try (cases h; done)
  · -- text
    rename_i z i
    cases r1_str ru; cases r1_int rv
    have h' : (if z.length ≤ sizeLine then (atI z.cps.toList i).map fun c => D.str ⟨#[c]⟩ else none) = some d := h
    split at h'
    · rename_i c
      obtain ⟨k, e1, e2⟩ := map_some' h'
      subst e2
      exact .inl (.inr (.inr ⟨z, i, k, rfl, rfl, c, e1, q _ rfl⟩))
    · cases h'
  · rename_i ds i
    obtain ⟨a, vs, rfl, m, r⟩ := r1_lst ru
    cases r1_int rv
    obtain ⟨w, e1, r1⟩ := atI_reps r h
    exact .inl (.inl ⟨a, vs, i, w, rfl, rfl, SqL.of m, e1, q w r1⟩)
  · rename_i ds i
    obtain ⟨a, vs, rfl, m, r⟩ := r1_tup ru
    cases r1_int rv
    obtain ⟨w, e1, r1⟩ := atI_reps r h
    exact .inl (.inr (.inl ⟨a, vs, i, w, rfl, rfl, SqT.of m, e1, q w r1⟩))
  · rename_i ks ds i
    obtain ⟨a, kvs, rfl, m, rfl, r⟩ := r1_dct ru
    cases r1_int rv
    obtain ⟨w, e1, r1⟩ := valD_some r h
    exact .inr ⟨a, w, rfl, by rw [← e1]; exact dget_r (k := .inl i) m, q w r1⟩
  · rename_i ks ds i
    obtain ⟨a, kvs, rfl, m, rfl, r⟩ := r1_dct ru
    cases r1_str rv
    obtain ⟨w, e1, r1⟩ := valD_some r h
    exact .inr ⟨a, w, rfl, by rw [← e1]; exact dget_r (k := .inr i) m, q w r1⟩
  · rename_i ns i
    obtain ⟨a, rfl, m⟩ := r1_scr ru
    cases r1_int rv
    obtain ⟨k, e1, e2⟩ := map_some' h
    subst e2
    exact .inl (.inl ⟨a, _, i, .int k, rfl, rfl, m, atI_map e1, q _ rfl⟩)
theorem cut_reps {M : Hp} {ds : List D} {vs : List V} (lo hi : Option Int) (r : Reps cl M ds vs) : Reps cl M (cutL ds lo hi) (cutV vs lo hi) := by
  unfold cutL cutV
  rw [r.length]
  exact (r.drop _).take _
theorem reps_ints {M : Hp} : ∀ ns : List Int, Reps cl M (ns.map .int) (ns.map V.int)
  | [] => Reps.nil
  | _ :: ns => Reps.cons rfl (reps_ints ns)
theorem sl_ok {M H : Hp} {x d : D} {b : Bool} {u : V} {lo hi : Option Int} {Q : VK} (ru : Rep1 cl M H x u) (h : slD lo hi x = some (d, b)) (q : ResQ cl M H d b Q) : rSlA cl.K u lo hi H Q := by
  cases x <;> try (cases h; done)
  · rename_i z
    cases r1_str ru
    have h' : (if z.length ≤ sizeLine then some (D.str (cutS z lo hi), false) else none) = some (d, b) := h
    split at h'
    · rename_i c
      cases h'
      exact .inr ⟨z, rfl, c, q.old rfl _ rfl⟩
    · cases h'
  · obtain ⟨a, vs, rfl, m, r⟩ := r1_lst ru
    cases h
    exact .inl ⟨a, vs, rfl, SqL.of m, fun p hp => q.new p _ hp ⟨_, rfl, cut_reps lo hi r⟩⟩
  · rename_i ns
    obtain ⟨a, rfl, m⟩ := r1_scr ru
    cases h
    exact .inl ⟨a, _, rfl, m, fun p hp => q.new p _ hp ⟨_, rfl, cut_reps lo hi (reps_ints ns)⟩⟩
theorem len_ok {H : Hp} {x : D} {n : Nat} {u : V} {Q : VK} (ru : Rep cl H x u) (h : lenD x = some n) (q : Q (.int n) H) : rBi cl.K .len [u] H Q := by
  cases x <;> try (cases h; done)
  · rename_i z
    cases ru
    have h' : (if z.length ≤ sizeLine then some z.length else none) = some n := h
    split at h'
    · rename_i c
      cases h'
      exact .inl ⟨_, _, rfl, ⟨c, rfl⟩, q⟩
    · cases h'
  · obtain ⟨a, vs, rfl, m, r⟩ := ru
    cases h
    exact .inl ⟨_, _, rfl, .inl ⟨vs, SqL.of m, r.length⟩, q⟩
  · obtain ⟨a, vs, rfl, m, r⟩ := ru
    cases h
    exact .inl ⟨_, _, rfl, .inr ⟨vs, SqT.of m, r.length⟩, q⟩
  · obtain ⟨a, kvs, rfl, m, rfl, r⟩ := ru
    cases h
    refine .inr ⟨a, kvs, rfl, m, ?_⟩
    rw [List.length_map] at q
    exact q
  · obtain ⟨a, rfl, m⟩ := ru
    cases h
    exact .inl ⟨_, _, rfl, .inl ⟨_, m, by rw [List.length_map]⟩, q⟩
theorem ints_of {H : Hp} : ∀ {ds : List D} {vs : List V} {ns : List Int}, Reps cl H ds vs → ds.mapM toI = some ns → vs = ns.map V.int
  | [], vs, ns, r, e => by cases r; cases e; rfl
  | d :: ds, vs, ns, ⟨v, us, h0, a, b⟩, e => by
    subst h0
    rw [List.mapM_cons] at e
    obtain ⟨i, e1, e2⟩ := bind_some' e
    obtain ⟨is, e3, e4⟩ := bind_some' e2
    cases e4
    cases d <;> cases e1
    rw [show v = .int i from a, ints_of b e3]
    rfl
theorem bls_of {H : Hp} : ∀ {ds : List D} {vs : List V} {ns : List Bool}, Reps cl H ds vs → ds.mapM toB = some ns → vs = ns.map V.bl
  | [], vs, ns, r, e => by cases r; cases e; rfl
  | d :: ds, vs, ns, ⟨v, us, h0, a, b⟩, e => by
    subst h0
    rw [List.mapM_cons] at e
    obtain ⟨i, e1, e2⟩ := bind_some' e
    obtain ⟨is, e3, e4⟩ := bind_some' e2
    cases e4
    cases d <;> cases e1
    rw [show v = .bl i from a, bls_of b e3]
    rfl
theorem strs_of {H : Hp} : ∀ {ds : List D} {vs : List V} {ns : List Str}, Reps cl H ds vs → ds.mapM toS = some ns → vs = ns.map V.str
  | [], vs, ns, r, e => by cases r; cases e; rfl
  | d :: ds, vs, ns, ⟨v, us, h0, a, b⟩, e => by
    subst h0
    rw [List.mapM_cons] at e
    obtain ⟨i, e1, e2⟩ := bind_some' e
    obtain ⟨is, e3, e4⟩ := bind_some' e2
    cases e4
    cases d <;> cases e1
    rw [show v = .str i from a, strs_of b e3]
    rfl
theorem bi_ok {M H : Hp} {f : Bi} {xs : List D} {d : D} {b : Bool} {vs : List V} {Q : VK} (s : Same M H) (r : Rep1s cl M H xs vs) (h : biD f xs = some (d, b)) (q : ResQ cl M H d b Q) : rBi cl.K f vs H Q := by
  cases f with
  | len =>
    cases xs with
    | nil => cases h
    | cons x xs =>
      cases xs with
      | cons _ _ => cases h
      | nil =>
        obtain ⟨v, us, rfl, r1, rfl⟩ := r
        obtain ⟨n, e1, e2⟩ := map_some' h
        cases e2
        exact len_ok (r1.reph s) e1 (q.old rfl _ rfl)
  | int1 =>
    cases xs with
    | nil => cases h
    | cons x xs =>
      cases xs with
      | cons _ _ => cases x <;> cases h
      | nil =>
        obtain ⟨v, us, rfl, r1, rfl⟩ := r
        cases x <;> try (cases h; done)
        · cases h; cases r1_bl r1; exact .inr ⟨_, rfl, q.old rfl _ rfl⟩
        · cases h; cases r1_int r1; exact .inl ⟨_, rfl, q.old rfl _ rfl⟩
  | sum =>
    cases xs with
    | nil => cases h
    | cons x xs =>
      cases xs with
      | cons _ _ => cases x <;> cases h
      | nil =>
        obtain ⟨v, us, rfl, r1, rfl⟩ := r
        cases x <;> try (cases h; done)
        obtain ⟨a, vs, rfl, m, r2⟩ := r1_lst r1
        obtain ⟨ns, e1, e2⟩ := map_some' h
        cases e2
        cases ints_of r2 e1
        exact ⟨a, ns, rfl, SqL.of m, q.old rfl _ rfl⟩
  | any =>
    cases xs with
    | nil => cases h
    | cons x xs =>
      cases xs with
      | cons _ _ => cases x <;> cases h
      | nil =>
        obtain ⟨v, us, rfl, r1, rfl⟩ := r
        cases x <;> try (cases h; done)
        obtain ⟨a, vs, rfl, m, r2⟩ := r1_lst r1
        obtain ⟨ns, e1, e2⟩ := map_some' h
        cases e2
        cases bls_of r2 e1
        exact ⟨a, ns, rfl, SqL.of m, q.old rfl _ rfl⟩
  | all =>
    cases xs with
    | nil => cases h
    | cons x xs =>
      cases xs with
      | cons _ _ => cases x <;> cases h
      | nil =>
        obtain ⟨v, us, rfl, r1, rfl⟩ := r
        cases x <;> try (cases h; done)
        obtain ⟨a, vs, rfl, m, r2⟩ := r1_lst r1
        obtain ⟨ns, e1, e2⟩ := map_some' h
        cases e2
        cases bls_of r2 e1
        exact ⟨a, ns, rfl, SqL.of m, q.old rfl _ rfl⟩
  | max2 =>
    cases xs with
    | nil => cases h
    | cons x xs =>
      cases xs with
      | nil => cases x <;> cases h
      | cons y xs =>
        cases xs with
        | cons _ _ => cases x <;> cases y <;> cases h
        | nil =>
          obtain ⟨v, us, rfl, r1, v2, us2, rfl, r2, rfl⟩ := r
          cases x <;> cases y <;> try (cases h; done)
          cases h; cases r1_int r1; cases r1_int r2
          exact ⟨_, _, rfl, q.old rfl _ rfl⟩
  | min2 =>
    cases xs with
    | nil => cases h
    | cons x xs =>
      cases xs with
      | nil => cases x <;> cases h
      | cons y xs =>
        cases xs with
        | cons _ _ => cases x <;> cases y <;> cases h
        | nil =>
          obtain ⟨v, us, rfl, r1, v2, us2, rfl, r2, rfl⟩ := r
          cases x <;> cases y <;> try (cases h; done)
          cases h; cases r1_int r1; cases r1_int r2
          exact ⟨_, _, rfl, q.old rfl _ rfl⟩
  | abs =>
    cases xs with
    | nil => cases h
    | cons x xs =>
      cases xs with
      | cons _ _ => cases x <;> cases h
      | nil =>
        obtain ⟨v, us, rfl, r1, rfl⟩ := r
        cases x <;> try (cases h; done)
        cases h; cases r1_int r1; exact ⟨_, rfl, q.old rfl _ rfl⟩
  | list1 =>
    cases xs with
    | nil => cases h
    | cons x xs =>
      cases xs with
      | cons _ _ => cases x <;> cases h
      | nil =>
        obtain ⟨v, us, rfl, r1, rfl⟩ := r
        cases x <;> try (cases h; done)
        · cases h
          obtain ⟨a, vs, rfl, m, r2⟩ := r1_lst r1
          exact ⟨a, vs, rfl, .inl (SqL.of m), fun p hp => q.new p _ hp ⟨_, rfl, r2⟩⟩
        · cases h
          obtain ⟨a, vs, rfl, m, r2⟩ := r1_tup r1
          exact ⟨a, vs, rfl, .inr (SqT.of m), fun p hp => q.new p _ hp ⟨_, rfl, r2⟩⟩
        · cases h
          obtain ⟨a, rfl, m⟩ := r1_scr r1
          exact ⟨a, _, rfl, .inl m, fun p hp => q.new p _ hp ⟨_, rfl, reps_ints _⟩⟩
theorem isi_ok {H : Hp} {d : D} {t : String} {b : Bool} {v : V} {Q : VK} (r : Rep cl H d v) (h : isiD t d = some b) (q : Q (.bl b) H) : rIsi2 cl.K [v, .ty t] H Q := by
  obtain ⟨a, e1, e2⟩ := bind_some' h
  have k := isTy_kit e2
  by_cases hd : ∃ ks ds, d = .dct ks ds
  · obtain ⟨ks, ds, rfl⟩ := hd
    obtain ⟨a, vs, rfl, m, _⟩ := r
    cases e1
    exact .inr ⟨a, vs, .ty t, .type t, b, rfl, .ty t, m, kit_ty k, q⟩
  refine .inl ⟨v, .ty t, .type a, .type t, b, rfl, .ty t, ?_, kit_ty k, q⟩
  cases d <;> cases e1
  · cases r; exact .base .non
  · cases r; exact .base (.bl _)
  · cases r; exact .base (.int _)
  · cases r; exact .base (.str _)
  · obtain ⟨a, vs, rfl, m, _⟩ := r; exact .base (.lst m)
  · obtain ⟨a, vs, rfl, m, _⟩ := r; exact .base (.tup m)
  · exact absurd ⟨_, _, rfl⟩ hd
  · obtain ⟨a, rfl, m⟩ := r
    rcases m with (m | ⟨o, m⟩) | ⟨o, its, n, m, c, _⟩
    · exact .base (.lst m)
    · exact .base (.frz m)
    · exact .kList m c
theorem firstIx_ok {x : V} : ∀ {ys : List V} {j : Nat}, firstIx x ys = some j → ∃ z, ys[j]? = some z ∧ eqV z x = true ∧ ∀ (m : Nat) (z' : V), m < j → ys[m]? = some z' → eqV z' x = false
  | [], j, h => by cases h
  | y :: ys, j, h => by
    have h' : (if eqV y x = true then some 0 else (firstIx x ys).map (· + 1)) = some j := h
    by_cases c : eqV y x = true
    · rw [if_pos c] at h'
      cases h'
      exact ⟨y, rfl, c, fun m z hm => absurd hm (Nat.not_lt_zero m)⟩
    · rw [if_neg c] at h'
      obtain ⟨k, e1, rfl⟩ := map_some' h'
      obtain ⟨z, h1, h2, h3⟩ := firstIx_ok e1
      refine ⟨z, by simpa using h1, h2, fun m z' hm hz => ?_⟩
      cases m with
      | zero =>
        simp at hz
        subst hz
        simpa using c
      | succ m => exact h3 m z' (by omega) (by simpa using hz)
theorem bm_ok {M H : Hp} {m : Bm} {x : D} {xs : List D} {d : D} {b : Bool} {u : V} {vs : List V} {Q : VK} (s : Same M H) (ru : Rep1 cl M H x u) (r : Rep1s cl M H xs vs) (h : bmD m x xs = some (d, b)) (q : ResQ cl M H d b Q) : rBm cl.K m u vs H Q := by
  cases m with
  | join =>
    cases x <;> try (cases h; done)
    rename_i a
    cases xs with
    | nil => cases h
    | cons y xs =>
      cases xs with
      | cons _ _ => cases y <;> cases h
      | nil =>
        obtain ⟨v, us, rfl, r1, rfl⟩ := r
        cases y <;> try (cases h; done)
        obtain ⟨p, vs, rfl, m, r2⟩ := r1_lst r1
        cases r1_str ru
        obtain ⟨ys, e1, e2⟩ := bind_some' h
        split at e2
        · rename_i c
          cases e2
          cases strs_of r2 e1
          exact ⟨a, p, ys, rfl, rfl, .inl (SqL.of m), c, q.old rfl _ rfl⟩
        · cases e2
  | index =>
    cases x <;> try (cases h; done)
    rename_i ds
    cases xs with
    | nil => cases h
    | cons y xs =>
      cases xs with
      | cons _ _ => cases h
      | nil =>
        obtain ⟨v, us, rfl, r1, rfl⟩ := r
        obtain ⟨p, vs, rfl, m, r2⟩ := r1_lst ru
        obtain ⟨u', e1, h⟩ := bind_some' h
        obtain ⟨vs', e2, h⟩ := bind_some' h
        obtain ⟨j, e3, h⟩ := bind_some' h
        cases h
        obtain ⟨h1, al⟩ := fls_reps r2 e2
        subst h1
        cases (r1.reph s).fl e1
        obtain ⟨z, k1, k2, k3⟩ := firstIx_ok e3
        exact ⟨p, vs, v, j, z, rfl, rfl, SqL.of m, fl_flat e1, al, k1, k2, k3, q.old rfl _ rfl⟩
  | startswith =>
    cases x <;> try (cases h; done)
    cases xs with
    | nil => cases h
    | cons y xs =>
      cases xs with
      | cons _ _ => cases y <;> cases h
      | nil =>
        obtain ⟨v, us, rfl, r1, rfl⟩ := r
        cases y <;> try (cases h; done)
        cases h
        cases r1_str ru
        cases r1_str r1
        exact ⟨_, _, rfl, rfl, q.old rfl _ rfl⟩
  | sindex =>
    cases x <;> try (cases h; done)
    cases xs with
    | nil => cases h
    | cons y xs =>
      cases xs with
      | cons _ _ => cases y <;> cases h
      | nil =>
        obtain ⟨v, us, rfl, r1, rfl⟩ := r
        cases y <;> try (cases h; done)
        obtain ⟨i, e1, e2⟩ := map_some' h
        cases e2
        cases r1_str ru
        cases r1_str r1
        obtain ⟨rest, e3⟩ := List.head?_eq_some_iff.mp e1
        exact ⟨_, _, i, rest, rfl, rfl, e3, q.old rfl _ rfl⟩
theorem bm_ty {M H : Hp} {m : Bm} {x : D} {xs : List D} {p : D × Bool} {u : V} (ru : Rep1 cl M H x u) (h : bmD m x xs = some p) : tyV cl.K (tyBm m) u H := by
  cases m with
  | join =>
    cases x <;> try (cases h; done)
    cases r1_str ru
    rfl
  | index =>
    cases x <;> try (cases h; done)
    obtain ⟨p, vs, rfl, m, r2⟩ := r1_lst ru
    exact .inl ⟨rfl, _, SqL.of m⟩
  | startswith =>
    cases x <;> try (cases h; done)
    cases r1_str ru
    rfl
  | sindex =>
    cases x <;> try (cases h; done)
    cases r1_str ru
    rfl
end Dv
namespace Dv
open PySem PySem.Spec L2
variable {cl : Ct} {lk : List Nat}
theorem snd_bin {o : BOp} {ta tb : TE} {x y : Env → Option (R × Env)} (ha : SndE cl lk ta x) (hb : SndE cl lk tb y) : SndE cl lk (tOp (rB o) ta tb) (fun Γ => (ev2 x y Γ).bind fun p => (binD o p.1 p.2.1).map fun q => (mkR q, p.2.2)) := by
  intro Γ r Γ' e σ M H ok Q q
  obtain ⟨⟨d, d', Γ1⟩, e1, e2⟩ := bind_some' e
  obtain ⟨p, e3, e4⟩ := map_some' e2
  cases e4
  refine snd_two ha hb e1 ok fun u v M' H' s nm r1 r2 => ?_
  exact bin_ok r1 r2 e3 (post_res s nm q)
theorem snd_cmpT {o : COp} {ta tb : TE} {x y : Env → Option (R × Env)} (ha : SndE cl lk ta x) (hb : SndE cl lk tb y) {Γ Γ' : Env} {b : Bool} (e : ((ev2 x y Γ).bind fun p => (cmpD o p.1 p.2.1).map fun q => (q, p.2.2)) = some (b, Γ')) {σ : St} {M H : Hp} (ok : OkS cl Γ σ M H) {Q : VK}
    (q : ∀ M' H', Stp cl lk (isOwn Γ σ) Γ σ M H Γ' σ M' H' → Names' Γ Γ' → Q (.bl b) H') : tOp (rC cl.K o) ta tb σ H Q := by
  obtain ⟨⟨d, d', Γ1⟩, e1, e2⟩ := bind_some' e
  obtain ⟨p, e3, e4⟩ := map_some' e2
  cases e4
  refine snd_two ha hb e1 ok fun u v M' H' s nm r1 r2 => ?_
  exact cmp_ok s.ok.sub r1 r2 e3 (q M' H' s nm)
theorem snd_cmp {o : COp} {ta tb : TE} {x y : Env → Option (R × Env)} (ha : SndE cl lk ta x) (hb : SndE cl lk tb y) :
    Snd cl lk (mkT (tOp (rC cl.K o) ta tb) (tTest (tOp (rC cl.K o) ta tb))) (let c : Env → Option (Bool × Env) := fun Γ => (ev2 x y Γ).bind fun p => (cmpD o p.1 p.2.1).map fun q => (q, p.2.2)
      { mkE (fun Γ => (c Γ).map fun p => (.sh (.bl p.1), p.2)) with t := c }) := by
  refine SndE.sndT (fun Γ r Γ' e σ M H ok Q q => ?_) (fun Γ b Γ' e σ M H ok Q q => ?_)
  · obtain ⟨⟨b, Γ1⟩, e1, e2⟩ := map_some' e
    cases e2
    exact snd_cmpT ha hb e1 ok fun M' H' s nm => q _ M' H' s nm rfl
  · exact snd_cmpT ha hb e ok fun M' H' s nm => ⟨b, rfl, q M' H' s nm⟩
theorem snd_getB {g : Cfg} {ta : TE} {x : Env → Option (R × Env)} (ha : SndE cl lk ta x) {Γ Γ' : Env} {b : Bool} (e : getB g x Γ = some (b, Γ')) {σ : St} {M H : Hp} (ok : OkS cl Γ σ M H) {Q : VK}
    (q : ∀ M' H', Stp cl lk (isOwn Γ σ) Γ σ M H Γ' σ M' H' → Names' Γ Γ' → Q (.bl b) H') : ta σ H Q := by
  obtain ⟨⟨r, Γ1⟩, e1, e2⟩ := bind_some' e
  obtain ⟨d, e3, e4⟩ := bind_some' e2
  obtain ⟨b', e5, e6⟩ := map_some' e4
  cases e6
  refine ha Γ r _ e1 σ M H ok _ fun v M' H' s nm rv => ?_
  have k := rv.reph s.ok e3
  cases d <;> cases e5
  cases k
  exact q M' H' s nm
theorem snd_nt {g : Cfg} {ta : TE} {tt : TT} {x : Env → Option (R × Env)} {t : Env → Option (Bool × Env)} (ha : SndE cl lk ta x) (ht : SndT cl lk tt t) :
    Snd cl lk (mkT (tNotV ta) (tNot tt)) { mkE (fun Γ => (getB g x Γ).map fun p => (.sh (.bl (!p.1)), p.2)) with t := fun Γ => (t Γ).map fun p => (!p.1, p.2) } := by
  refine SndE.sndT (fun Γ r Γ' e σ M H ok Q q => ?_) (fun Γ b Γ' e σ M H ok Q q => ?_)
  · obtain ⟨⟨b, Γ1⟩, e1, e2⟩ := map_some' e
    cases e2
    exact snd_getB ha e1 ok fun M' H' s nm => ⟨b, rfl, q _ M' H' s nm rfl⟩
  · obtain ⟨⟨b, Γ1⟩, e1, e2⟩ := map_some' e
    cases e2
    exact ht Γ b _ e1 σ M H ok _ fun M' H' s nm => q M' H' s nm
theorem snd_neg {ta : TE} {x : Env → Option (R × Env)} (ha : SndE cl lk ta x) : SndE cl lk (tUn (rU fun i => .int (-i)) ta) (fun Γ => (x Γ).bind fun p => (getR p.2 p.1).bind fun d => (toI d).map fun i => (.sh (.int (-i)), p.2)) := by
  intro Γ r Γ' e σ M H ok Q q
  obtain ⟨⟨r, Γ1⟩, e1, e2⟩ := bind_some' e
  obtain ⟨d, e3, e4⟩ := bind_some' e2
  obtain ⟨b', e5, e6⟩ := map_some' e4
  cases e6
  refine ha Γ r _ e1 σ M H ok _ fun v M' H' s nm rv => ?_
  have k := rv.reph s.ok e3
  cases d <;> cases e5
  cases k
  exact ⟨_, rfl, q _ M' H' s nm rfl⟩
/-- what follows behind a first step -/
theorem PostE.after {Γ Γ1 Γ2 : Env} {σ : St} {M H M1 H1 : Hp} {r : R} {Q : VK} (s : Stp cl lk (isOwn Γ σ) Γ σ M H Γ1 σ M1 H1) (nm : Names' Γ Γ1) (q : PostE cl lk Γ σ M H r Γ2 Q) : PostE cl lk Γ1 σ M1 H1 r Γ2 Q :=
  fun v M2 H2 s2 n2 rv => q v M2 H2 (s.trans s2 s.own) (nm.trans n2) (rv.imp fun _ h => none_of_live s.fr h)
theorem snd_and {g : Cfg} {ta tb : TE} {t1 t2 : TT} {x y : Env → Option (R × Env)} {u w : Env → Option (Bool × Env)} (ha : SndE cl lk ta x) (hb : SndE cl lk tb y) (h1 : SndT cl lk t1 u) (h2 : SndT cl lk t2 w) :
    Snd cl lk (mkT (tAndV ta tb) (tAnd t1 t2)) { mkE (fun Γ => (getB g x Γ).bind fun p => if p.1 then y p.2 else some (.sh (.bl false), p.2)) with t := fun Γ => (u Γ).bind fun p => if p.1 then w p.2 else some (false, p.2) } := by
  refine SndE.sndT (fun Γ r Γ' e σ M H ok Q q => ?_) (fun Γ b Γ' e σ M H ok Q q => ?_)
  · obtain ⟨⟨b, Γ1⟩, e1, e2⟩ := bind_some' e
    refine snd_getB ha e1 ok fun M' H' s nm => ⟨b, rfl, ?_⟩
    cases b with
    | true => exact hb Γ1 r Γ' e2 σ M' H' s.ok Q (q.after s nm)
    | false => cases e2; exact q _ M' H' s nm rfl
  · obtain ⟨⟨b1, Γ1⟩, e1, e2⟩ := bind_some' e
    refine h1 Γ b1 Γ1 e1 σ M H ok _ fun M' H' s nm => ?_
    cases b1 with
    | true => exact h2 Γ1 b Γ' e2 σ M' H' s.ok Q fun M2 H2 s2 n2 => q M2 H2 (s.trans s2 s.own) (nm.trans n2)
    | false => cases e2; exact q M' H' s nm
theorem snd_andT {ta tb : TE} {x y : Env → Option (R × Env)} (ha : SndE cl lk ta x) (hb : SndE cl lk tb y) : SndE cl lk (tAndT cl.K ta tb) (fun Γ => (x Γ).bind fun p => (getR p.2 p.1).bind fun d => (truD d).bind fun c => if c then y p.2 else some p) := by
  intro Γ r Γ' e σ M H ok Q q
  obtain ⟨⟨r1, Γ1⟩, e1, e⟩ := bind_some' e
  obtain ⟨d, e2, e⟩ := bind_some' e
  obtain ⟨c, e3, e⟩ := bind_some' e
  refine ha Γ r1 Γ1 e1 σ M H ok _ fun v M1 H1 s1 n1 v1 => ?_
  refine ⟨c, tru_rep (v1.reph s1.ok e2) e3, ?_⟩
  cases c with
  | true => exact hb Γ1 r Γ' e σ M1 H1 s1.ok Q (q.after s1 n1)
  | false => cases e; exact q v M1 H1 s1 n1 v1
theorem snd_or {g : Cfg} {ta tb : TE} {t1 t2 : TT} {x y : Env → Option (R × Env)} {u w : Env → Option (Bool × Env)} (ha : SndE cl lk ta x) (hb : SndE cl lk tb y) (h1 : SndT cl lk t1 u) (h2 : SndT cl lk t2 w) :
    Snd cl lk (mkT (tOrV ta tb) (tOr t1 t2)) { mkE (fun Γ => (getB g x Γ).bind fun p => if p.1 then some (.sh (.bl true), p.2) else y p.2) with t := fun Γ => (u Γ).bind fun p => if p.1 then some (true, p.2) else w p.2 } := by
  refine SndE.sndT (fun Γ r Γ' e σ M H ok Q q => ?_) (fun Γ b Γ' e σ M H ok Q q => ?_)
  · obtain ⟨⟨b, Γ1⟩, e1, e2⟩ := bind_some' e
    refine snd_getB ha e1 ok fun M' H' s nm => ⟨b, rfl, ?_⟩
    cases b with
    | false => exact hb Γ1 r Γ' e2 σ M' H' s.ok Q (q.after s nm)
    | true => cases e2; exact q _ M' H' s nm rfl
  · obtain ⟨⟨b1, Γ1⟩, e1, e2⟩ := bind_some' e
    refine h1 Γ b1 Γ1 e1 σ M H ok _ fun M' H' s nm => ?_
    cases b1 with
    | false => exact h2 Γ1 b Γ' e2 σ M' H' s.ok Q fun M2 H2 s2 n2 => q M2 H2 (s.trans s2 s.own) (nm.trans n2)
    | true => cases e2; exact q M' H' s nm
theorem snd_ite {tc : TT} {ta tb : TE} {x y : Env → Option (R × Env)} {u : Env → Option (Bool × Env)} (hc : SndT cl lk tc u) (ha : SndE cl lk ta x) (hb : SndE cl lk tb y) : SndE cl lk (tIf tc ta tb) (fun Γ => (u Γ).bind fun p => if p.1 then x p.2 else y p.2) := by
  intro Γ r Γ' e σ M H ok Q q
  obtain ⟨⟨b1, Γ1⟩, e1, e2⟩ := bind_some' e
  refine hc Γ b1 Γ1 e1 σ M H ok _ fun M' H' s nm => ?_
  cases b1 with
  | true => exact ha Γ1 r Γ' e2 σ M' H' s.ok Q (q.after s nm)
  | false => exact hb Γ1 r Γ' e2 σ M' H' s.ok Q (q.after s nm)
theorem snd_nil : SndA cl lk tNil (fun Γ => some ([], Γ)) := by
  intro Γ rs Γ' e σ M H ok Q q
  cases e
  exact q [] M H (Stp.rfl' ok) Names'.refl rfl
theorem snd_cons {ta : TE} {tr : TA} {x : Env → Option (R × Env)} {y : Env → Option (List R × Env)} (ha : SndE cl lk ta x) (hr : SndA cl lk tr y) : SndA cl lk (tCons ta tr) (fun Γ => (x Γ).bind fun p => (y p.2).map fun q => (p.1 :: q.1, q.2)) := by
  intro Γ rs Γ' e σ M H ok Q q
  obtain ⟨⟨r, Γ1⟩, e1, e2⟩ := bind_some' e
  obtain ⟨⟨rs', Γ2⟩, e3, e4⟩ := map_some' e2
  cases e4
  refine ha Γ r Γ1 e1 σ M H ok _ fun v M1 H1 s1 n1 r1 => ?_
  refine hr Γ1 rs' _ e3 σ M1 H1 s1.ok _ fun vs M2 H2 s2 n2 r2 => ?_
  refine q (v :: vs) M2 H2 (s1.trans s2 s1.own) (n1.trans n2) ⟨v, vs, rfl, r1.step s2 n2 fun a h => .inl h, r2.imp fun a h => ⟨none_of_live s1.fr h, fun z => r1.alive z h⟩⟩
/-- all arguments are shared from now on -/
theorem keep_post {Γ Γ1 Γ2 : Env} {σ : St} {M H M1 H1 : Hp} {rs : List R} {vs : List V} {ds : List D} (ok : OkS cl Γ σ M H) (s : Stp cl lk (isOwn Γ σ) Γ σ M H Γ1 σ M1 H1) (nm : Names' Γ Γ1) (rv : RVs cl Γ1 σ M1 H1 (fun a => H a = none) rs vs) (k : keepRs lk rs Γ1 = some (ds, Γ2)) :
    ∃ M2, Stp cl lk (isOwn Γ σ) Γ σ M H Γ2 σ M2 H1 ∧ Names' Γ Γ2 ∧ Reps cl M2 ds vs ∧ Same M1 M2 := by
  obtain ⟨M2, s2, n2, r2⟩ := keepRs_ok s.ok ok.fresh rv k
  exact ⟨M2, s.trans s2 fun a h => h.elim (s.own a) .inr, nm.trans n2, r2, s2.fr.subM⟩
theorem keep1_post {Γ Γ1 Γ2 : Env} {σ : St} {M H M1 H1 : Hp} {r : R} {v : V} {d : D} (ok : OkS cl Γ σ M H) (s : Stp cl lk (isOwn Γ σ) Γ σ M H Γ1 σ M1 H1) (nm : Names' Γ Γ1) (rv : RV cl (fun a => H a = none) Γ1 σ M1 H1 r v) (k : keepR lk r Γ1 = some (d, Γ2)) :
    ∃ M2, Stp cl lk (isOwn Γ σ) Γ σ M H Γ2 σ M2 H1 ∧ Names' Γ Γ2 ∧ Rep cl M2 d v ∧ Same M1 M2 := by
  obtain ⟨M2, s2, n2, r2⟩ := keepR_ok s.ok ok.fresh rv k
  exact ⟨M2, s.trans s2 fun a h => h.elim (s.own a) fun z => .inr z.1, nm.trans n2, r2, s2.fr.subM⟩
theorem snd_lst {ta : TA} {x : Env → Option (List R × Env)} (ha : SndA cl lk ta x) : SndE cl lk (tLst ta) (fun Γ => (x Γ).bind fun p => (keepRs lk p.1 p.2).bind fun q => if q.1.length ≤ sizeLine then some (.ow (.lst q.1), q.2) else none) := by
  intro Γ r Γ' e σ M H ok Q q
  obtain ⟨⟨rs, Γ1⟩, e1, e2⟩ := bind_some' e
  obtain ⟨⟨ds, Γ2⟩, e3, e4⟩ := bind_some' e2
  split at e4
  · rename_i c
    cases e4
    refine ha Γ rs Γ1 e1 σ M H ok _ fun vs M1 H1 s1 n1 r1 => ?_
    obtain ⟨M2, s2, n2, r2, _⟩ := keep_post ok s1 n1 r1 e3
    refine ⟨by rw [← r2.length]; exact c, fun p hp => ?_⟩
    obtain ⟨s3, r3⟩ := s2.new (d := .lst ds) hp ⟨vs, rfl, r2⟩
    exact q _ _ _ s3 n2 r3
  · cases e4
theorem snd_tup {ta : TA} {x : Env → Option (List R × Env)} (ha : SndA cl lk ta x) : SndE cl lk (tTup ta) (fun Γ => (x Γ).bind fun p => (keepRs lk p.1 p.2).bind fun q => if q.1.length ≤ sizeLine then some (.sh (.nw (.tup q.1)), q.2) else none) := by
  intro Γ r Γ' e σ M H ok Q q
  obtain ⟨⟨rs, Γ1⟩, e1, e2⟩ := bind_some' e
  obtain ⟨⟨ds, Γ2⟩, e3, e4⟩ := bind_some' e2
  split at e4
  · rename_i c
    cases e4
    refine ha Γ rs Γ1 e1 σ M H ok _ fun vs M1 H1 s1 n1 r1 => ?_
    obtain ⟨M2, s2, n2, r2, _⟩ := keep_post ok s1 n1 r1 e3
    refine ⟨by rw [← r2.length]; exact c, fun p hp => ?_⟩
    obtain ⟨s3, r3⟩ := s2.newSh (d := .tup ds) hp ⟨vs, rfl, r2⟩
    exact q _ _ _ s3 n2 ⟨r3, p, rfl, s2.ok.fresh p hp⟩
  · cases e4
theorem snd_dnew : SndE cl lk tDNewK (fun Γ => some (.ow (.dct [] []), Γ)) := by
  intro Γ r Γ' e σ M H ok Q q
  cases e
  intro p hp
  obtain ⟨s3, r3⟩ := (Stp.rfl' (lk := lk) ok).new (d := .dct [] []) (o := .dK []) hp ⟨[], rfl, rfl, rfl⟩
  exact q _ _ _ s3 Names'.refl r3
theorem snd_idx {ta tb : TE} {x y : Env → Option (R × Env)} (ha : SndE cl lk ta x) (hb : SndE cl lk tb y) : SndE cl lk (tOp (rIdx cl.K) ta tb) (fun Γ => (ev2 x y Γ).bind fun p => (idxD p.1 p.2.1).map fun d => (.sh d, p.2.2)) := by
  intro Γ r Γ' e σ M H ok Q q
  obtain ⟨⟨d, d', Γ1⟩, e1, e2⟩ := bind_some' e
  obtain ⟨p, e3, e4⟩ := map_some' e2
  cases e4
  refine snd_two ha hb e1 ok fun u v M' H' s nm r1 r2 => ?_
  exact idx_ok s.ok.sub r1 r2 e3 fun w rw => q w M' H' s nm rw
theorem snd_sl {ta : TE} {tl th : TO} {x : Env → Option (R × Env)} {y z : Env → Option (Option Int × Env)} (ha : SndE cl lk ta x) (hl : SndO cl lk tl y) (hh : SndO cl lk th z) :
    SndE cl lk (tSl (rSlA cl.K) ta tl th) (fun Γ => (x Γ).bind fun p => (y p.2).bind fun l => (z l.2).bind fun h => (getR h.2 p.1).bind fun d => (slD l.1 h.1 d).map fun q => (mkR q, h.2)) := by
  intro Γ r Γ' e σ M H ok Q q
  obtain ⟨⟨r1, Γ1⟩, e1, e⟩ := bind_some' e
  obtain ⟨⟨lo, Γ2⟩, e2, e⟩ := bind_some' e
  obtain ⟨⟨hi, Γ3⟩, e3, e⟩ := bind_some' e
  obtain ⟨d, e4, e⟩ := bind_some' e
  obtain ⟨p, e5, e⟩ := map_some' e
  cases e
  refine ha Γ r1 Γ1 e1 σ M H ok _ fun u M1 H1 s1 n1 v1 => ?_
  refine hl Γ1 lo Γ2 e2 σ M1 H1 s1.ok _ fun M2 H2 s2 n2 => ?_
  refine hh Γ2 hi _ e3 σ M2 H2 s2.ok _ fun M3 H3 s3 n3 => ?_
  have v2 := (v1.step s2 n2 fun a h => .inl h).step s3 n3 fun a h => .inl h
  exact sl_ok (v2.get s3.ok e4) e5 (post_res ((s1.trans s2 s1.own).trans s3 (s1.trans s2 s1.own).own) ((n1.trans n2).trans n3) q)
theorem snd_bi {f : Bi} {ta : TA} {x : Env → Option (List R × Env)} (ha : SndA cl lk ta x) : SndE cl lk (tCB (rBi cl.K f) ta) (fun Γ => (x Γ).bind fun p => (getRs p.2 p.1).bind fun ds => (biD f ds).map fun q => (mkR q, p.2)) := by
  intro Γ r Γ' e σ M H ok Q q
  obtain ⟨⟨rs, Γ1⟩, e1, e⟩ := bind_some' e
  obtain ⟨ds, e2, e⟩ := bind_some' e
  obtain ⟨p, e3, e⟩ := map_some' e
  cases e
  refine ha Γ rs _ e1 σ M H ok _ fun vs M1 H1 s1 n1 r1 => ?_
  exact bi_ok s1.ok.sub (r1.get s1.ok e2) e3 (post_res s1 n1 q)
theorem snd_isi {t : String} {ta : TE} {x : Env → Option (R × Env)} (ha : SndE cl lk ta x) : SndE cl lk (tCB (rIsi2 cl.K) (tCons ta (tCons (tC (.ty t)) tNil))) (fun Γ => (x Γ).bind fun p => (getR p.2 p.1).bind fun d => (isiD t d).map fun b => (.sh (.bl b), p.2)) := by
  intro Γ r Γ' e σ M H ok Q q
  obtain ⟨⟨r1, Γ1⟩, e1, e⟩ := bind_some' e
  obtain ⟨d, e2, e⟩ := bind_some' e
  obtain ⟨b, e3, e⟩ := map_some' e
  cases e
  refine ha Γ r1 _ e1 σ M H ok _ fun v M1 H1 s1 n1 v1 => ?_
  exact isi_ok (v1.reph s1.ok e2) e3 (q _ M1 H1 s1 n1 rfl)
theorem reps_keys {M : Hp} : ∀ kvs : List (Key × V), Reps cl M ((kvs.map (·.1)).map keyD) (kvs.map fun kv => kV kv.1)
  | [] => Reps.nil
  | (.inl _, _) :: kvs => Reps.cons rfl (reps_keys kvs)
  | (.inr _, _) :: kvs => Reps.cons rfl (reps_keys kvs)
theorem snd_keysL {ta : TE} {x : Env → Option (R × Env)} (ha : SndE cl lk ta x) : SndE cl lk (tListKeys ta) (fun Γ => (x Γ).bind fun p => (getR p.2 p.1).bind fun d => (keysD d).map fun z => (.ow z, p.2)) := by
  intro Γ r Γ' e σ M H ok Q q
  obtain ⟨⟨r1, Γ1⟩, e1, e⟩ := bind_some' e
  obtain ⟨d, e2, e⟩ := bind_some' e
  obtain ⟨z, e3, e⟩ := map_some' e
  cases e
  refine ha Γ r1 _ e1 σ M H ok _ fun v M1 H1 s1 n1 v1 => ?_
  cases d <;> try (cases e3; done)
  cases e3
  obtain ⟨a, kvs, rfl, m, rfl, _⟩ := r1_dct (v1.get s1.ok e2)
  refine ⟨a, kvs, rfl, m, fun p hp => ?_⟩
  obtain ⟨s2, r2⟩ := s1.new (d := .lst ((kvs.map (·.1)).map keyD)) (o := .lst (kvs.map fun kv => kV kv.1)) hp ⟨_, rfl, reps_keys kvs⟩
  exact q _ _ _ s2 n1 r2
theorem bmTy_ok {M H : Hp} {m : Bm} {x : D} {u : V} (ru : Rep1 cl M H x u) (h : bmTy m x = true) : tyV cl.K (tyBm m) u H := by
  cases m with
  | join =>
    cases x <;> try (cases h; done)
    cases r1_str ru
    rfl
  | index =>
    cases x <;> try (cases h; done)
    obtain ⟨p, vs, rfl, m, r2⟩ := r1_lst ru
    exact .inl ⟨rfl, _, SqL.of m⟩
  | startswith =>
    cases x <;> try (cases h; done)
    cases r1_str ru
    rfl
  | sindex =>
    cases x <;> try (cases h; done)
    cases r1_str ru
    rfl
theorem ite_some {α : Type} {c : Prop} [Decidable c] {x : Option α} {a : α} (h : (if c then x else none) = some a) : c ∧ x = some a := by
  split at h
  · rename_i q; exact ⟨q, h⟩
  · cases h
theorem snd_bm {m : Bm} {to : TE} {ta : TA} {y : Env → Option (R × Env)} {x : Env → Option (List R × Env)} (ho : SndE cl lk to y) (ha : SndA cl lk ta x) :
    SndE cl lk (tBM cl.K (tyBm m) (rBm cl.K m) to ta) (fun Γ => (y Γ).bind fun p => (getR p.2 p.1).bind fun d0 => if bmTy m d0 then (x p.2).bind fun q => (getR q.2 p.1).bind fun d => (getRs q.2 q.1).bind fun ds => (bmD m d ds).map fun z => (mkR z, q.2) else none) := by
  intro Γ r Γ' e σ M H ok Q q
  obtain ⟨⟨r1, Γ1⟩, e1, e⟩ := bind_some' e
  obtain ⟨d0, e0, e⟩ := bind_some' e
  obtain ⟨c, e⟩ := ite_some e
  obtain ⟨⟨rs, Γ2⟩, e2, e⟩ := bind_some' e
  obtain ⟨d, e3, e⟩ := bind_some' e
  obtain ⟨ds, e4, e⟩ := bind_some' e
  obtain ⟨p, e5, e⟩ := map_some' e
  cases e
  refine ho Γ r1 Γ1 e1 σ M H ok _ fun u M1 H1 s1 n1 v1 => ⟨bmTy_ok (v1.get s1.ok e0) c, ?_⟩
  refine ha Γ1 rs _ e2 σ M1 H1 s1.ok _ fun vs M2 H2 s2 n2 v2 => ?_
  exact bm_ok s2.ok.sub ((v1.step s2 n2 fun a h => .inl h).get s2.ok e3) (v2.get s2.ok e4) e5 (post_res (s1.trans s2 s1.own) (n1.trans n2) q)
theorem isDct_ok {M H : Hp} {x : D} {u : V} (ru : Rep1 cl M H x u) (h : isDct x = true) : ∃ a, u = .ref a ∧ IsD H a := by
  cases x <;> try (cases h; done)
  obtain ⟨a, kvs, rfl, m, _⟩ := r1_dct ru
  exact ⟨a, rfl, .inl ⟨kvs, m⟩⟩
theorem getDct_ok {M H : Hp} {x y : D} {z : Option D} {a : Addr} {v : V} (s : Same M H) (ru : Rep1 cl M H x (.ref a)) (rv : Rep1 cl M H y v) (h : getDct x y = some z) : ∃ o, DGet H a v o ∧ match z with | some d => ∃ w, o = some w ∧ Rep cl M d w | none => o = none := by
  cases x <;> try (cases h; done)
  obtain ⟨a', kvs, e, m, e2, r⟩ := r1_dct ru
  cases e
  obtain ⟨k, e1, e3⟩ := map_some' h
  subst e2
  cases keyOf_rep (rv.reph s) e1
  refine ⟨_, dget_r m, ?_⟩
  have k1 := valD_isSome (k := k) r
  cases z with
  | none =>
    rw [e3] at k1
    show valV kvs k = none
    cases q : valV kvs k with
    | none => rfl
    | some w => rw [q] at k1; cases k1
  | some d => exact valD_some r e3
theorem snd_get1 {to tk : TE} {x y : Env → Option (R × Env)} (ho : SndE cl lk to x) (hk : SndE cl lk tk y) :
    SndE cl lk (tDGet1 to tk) (fun Γ => (x Γ).bind fun p => (getR p.2 p.1).bind fun d0 => if isDct d0 then (y p.2).bind fun q => (getR q.2 p.1).bind fun d => (getR q.2 q.1).bind fun y => (getDct d y).map fun z => (.sh (z.getD .non), q.2) else none) := by
  intro Γ r Γ' e σ M H ok Q q
  obtain ⟨⟨r1, Γ1⟩, e1, e⟩ := bind_some' e
  obtain ⟨d0, e0, e⟩ := bind_some' e
  obtain ⟨c, e⟩ := ite_some e
  obtain ⟨⟨r2, Γ2⟩, e2, e⟩ := bind_some' e
  obtain ⟨d, e3, e⟩ := bind_some' e
  obtain ⟨k, e4, e⟩ := bind_some' e
  obtain ⟨z, e5, e⟩ := map_some' e
  cases e
  refine ho Γ r1 Γ1 e1 σ M H ok _ fun u M1 H1 s1 n1 v1 => ?_
  obtain ⟨a, rfl, hd⟩ := isDct_ok (v1.get s1.ok e0) c
  refine ⟨a, rfl, hd, ?_⟩
  refine hk Γ1 r2 _ e2 σ M1 H1 s1.ok _ fun v M2 H2 s2 n2 v2 => ?_
  obtain ⟨o, g, hz⟩ := getDct_ok s2.ok.sub ((v1.step s2 n2 fun a h => .inl h).get s2.ok e3) (v2.get s2.ok e4) e5
  refine ⟨o, g, q _ M2 H2 (s1.trans s2 s1.own) (n1.trans n2) ?_⟩
  cases z with
  | none => cases hz; exact rfl
  | some d => obtain ⟨w, rfl, rw'⟩ := hz; exact rw'
theorem snd_get2 {to tk tx : TE} {x y w : Env → Option (R × Env)} (ho : SndE cl lk to x) (hk : SndE cl lk tk y) (hx : SndE cl lk tx w) :
    SndE cl lk (tDGet2 to tk tx) (fun Γ => (x Γ).bind fun p => (getR p.2 p.1).bind fun d0 => if isDct d0 then (y p.2).bind fun q => (w q.2).bind fun w => (getR w.2 p.1).bind fun d => (getR w.2 q.1).bind fun y => (getDct d y).bind fun z => (keepR lk w.1 w.2).map fun v => (.sh (z.getD v.1), v.2) else none) := by
  intro Γ r Γ' e σ M H ok Q q
  obtain ⟨⟨r1, Γ1⟩, e1, e⟩ := bind_some' e
  obtain ⟨d0, e0, e⟩ := bind_some' e
  obtain ⟨c, e⟩ := ite_some e
  obtain ⟨⟨r2, Γ2⟩, e2, e⟩ := bind_some' e
  obtain ⟨⟨r3, Γ3⟩, e6, e⟩ := bind_some' e
  obtain ⟨d, e3, e⟩ := bind_some' e
  obtain ⟨k, e4, e⟩ := bind_some' e
  obtain ⟨z, e5, e⟩ := bind_some' e
  obtain ⟨⟨xd, Γ4⟩, e7, e⟩ := map_some' e
  cases e
  refine ho Γ r1 Γ1 e1 σ M H ok _ fun u M1 H1 s1 n1 v1 => ?_
  obtain ⟨a, rfl, hd⟩ := isDct_ok (v1.get s1.ok e0) c
  refine ⟨a, rfl, hd, ?_⟩
  refine hk Γ1 r2 _ e2 σ M1 H1 s1.ok _ fun v M2 H2 s2 n2 v2 => ?_
  refine hx Γ2 r3 _ e6 σ M2 H2 s2.ok _ fun v' M3 H3 s3 n3 v3 => ?_
  have s13 := s1.trans s2 s1.own
  have s4 := s13.trans s3 s13.own
  have n4 := (n1.trans n2).trans n3
  have v1' := (v1.step s2 n2 fun a h => .inl h).step s3 n3 fun a h => .inl h
  have v2' := v2.step s3 n3 fun a h => .inl h
  obtain ⟨M4, s5, n5, r5, sm⟩ := keep1_post ok s4 n4 (v3.imp fun b h => none_of_live s13.fr h) e7
  obtain ⟨o, g, hz⟩ := getDct_ok s3.ok.sub (v1'.get s3.ok e3) (v2'.get s3.ok e4) e5
  refine ⟨o, g, q _ M4 H3 s5 n5 ?_⟩
  cases z with
  | none => cases hz; exact r5
  | some d =>
    obtain ⟨w, rfl, rw'⟩ := hz
    exact Rep.mono sm rw'
end Dv
namespace Dv
open PySem PySem.Spec L2
variable {cl : Ct} {lk : List Nat}
/-- a list of one's own is changed -/
theorem OkS.put {Γ : Env} {σ : St} {M H : Hp} {i : Nat} {d d' : D} {a : Addr} {o' : HO} (o : OkS cl Γ σ M H) (e : Γ.at i = some (d, true)) (es : σ[i]? = some (some (.ref a))) (t : Top cl M d' o') :
    Stp cl lk (isOwn Γ σ) Γ σ M H (Γ.set i (some (d', true))) σ M (upd H a o') ∧ Names' Γ (Γ.set i (some (d', true))) := by
  have hi := at_lt e
  have ha : isOwn Γ σ a := ⟨i, d, e, es⟩
  have hm := (o.own_at ha).1
  refine ⟨Stp.mk' o o.ownN ⟨by rw [List.length_set]; exact o.len, fun b u q => by rw [upd_ne (ne_of_none q hm)]; exact o.sub b u q, fun j d2 b2 e2 => ?_, fun j k d1 d2 x h1 h2 h3 h4 => ?_⟩ ⟨fun b u q n => ?_, fun b q => ?_, Same.refl M, fun b q q' => absurd q q'⟩ (fun b ⟨j, d2, e2, e3⟩ => ?_) (fun _ _ => rfl) (fun j d2 hj e2 => ?_), fun j x e2 => ?_⟩
  · by_cases q : i = j
    · subst q
      rw [at_set_same hi] at e2
      cases e2
      exact ⟨_, es, a, o', rfl, hm, upd_same, t⟩
    · rw [at_set_ne q] at e2
      obtain ⟨v, e3, s⟩ := o.slot j d2 b2 e2
      refine ⟨v, e3, ?_⟩
      cases b2 with
      | false => exact s
      | true =>
        obtain ⟨a2, o2, rfl, m2, h2, t2⟩ := (show ∃ a o, v = V.ref a ∧ M a = none ∧ H a = some o ∧ Top cl M d2 o from s)
        exact ⟨a2, o2, rfl, m2, by rw [upd_ne (fun z => q (o.sep i j d d2 a e e2 es (by rw [← z]; exact e3)))]; exact h2, t2⟩
  · have own : ∀ j d, Env.at (Γ.set i (some (d', true))) j = some (d, true) → ∃ d, Γ.at j = some (d, true) := fun j d z => by
      by_cases q : i = j
      · subst q; exact ⟨_, e⟩
      · rw [at_set_ne q] at z; exact ⟨d, z⟩
    obtain ⟨_, g1⟩ := own j d1 h1
    obtain ⟨_, g2⟩ := own k d2 h2
    exact o.sep j k _ _ x g1 g2 h3 h4
  · rw [upd_ne (fun z => n (by rw [z]; exact ha))]; exact q
  · by_cases z : b = a
    · subst z; rw [upd_same]; exact fun z => nomatch z
    · rw [upd_ne z]; exact q
  · by_cases q : i = j
    · subst q; exact .inl ⟨i, d, e, e3⟩
    · rw [at_set_ne q] at e2; exact .inl ⟨j, d2, e2, e3⟩
  · by_cases q : i = j
    · subst q; exact ⟨_, at_set_same hi⟩
    · exact ⟨d2, by rw [at_set_ne q]; exact e2⟩
  · by_cases q : i = j
    · subst q; exact ⟨_, at_set_same hi⟩
    · exact ⟨x, by rw [at_set_ne q]; exact e2⟩
theorem mut_ok {M H : Hp} {m : Mu} {d d' r : D} {xs : List D} {a : Addr} {vs us : List V} {ds : List D} {Q : VK} (s : Same M H) (ed : d = .lst ds) (ha : H a = some (.lst vs)) (hr : Reps cl M ds vs) (rx : Reps cl M xs us) (h : mutD m d xs = some (d', r))
    (q : ∀ w o', Top cl M d' o' → Rep cl M r w → Q w (upd H a o')) : rMu m (.ref a) us H Q := by
  subst ed
  cases m with
  | append =>
    cases xs with
    | nil => cases h
    | cons x xs =>
      cases xs with
      | cons _ _ => cases h
      | nil =>
        obtain ⟨v, _, rfl, r1, rfl⟩ := rx
        obtain ⟨c, e⟩ := ite_some (c := ds.length < sizeLine) h
        cases e
        exact ⟨a, vs, v, rfl, rfl, ha, by rw [← hr.length]; exact c, q _ _ ⟨_, rfl, hr.append (Reps.cons r1 Reps.nil)⟩ rfl⟩
  | extend =>
    cases xs with
    | nil => cases h
    | cons x xs =>
      cases xs with
      | cons _ _ => cases h
      | nil =>
        obtain ⟨v, _, rfl, r1, rfl⟩ := rx
        have r1 := r1.un
        have h : (match x.un with | .lst es => if ds.length + es.length ≤ sizeLine then some (D.lst (ds ++ es), D.non) else none | _ => none) = some (d', r) := h
        generalize x.un = x' at h r1
        cases x' <;> try (cases h; done)
        rename_i es
        obtain ⟨b, zs, rfl, mb, r2⟩ := r1
        obtain ⟨c, e⟩ := ite_some (c := ds.length + es.length ≤ sizeLine) h
        cases e
        exact ⟨a, b, vs, zs, rfl, rfl, ha, s _ _ mb, by rw [← hr.length, ← r2.length]; exact c, q _ _ ⟨_, rfl, hr.append r2⟩ rfl⟩
  | pop =>
    cases xs with
    | cons _ _ => cases h
    | nil =>
      cases rx
      obtain ⟨x, e1, e2⟩ := map_some' h
      cases e2
      rw [List.getLast?_eq_getElem?] at e1
      obtain ⟨v, e3, r1⟩ := hr.get e1
      exact ⟨a, vs, v, rfl, rfl, ha, by rw [← hr.length]; exact e3, q _ _ ⟨_, rfl, hr.dropLast⟩ r1⟩
  | popAt =>
    cases xs with
    | nil => cases h
    | cons x xs =>
      cases xs with
      | cons _ _ => cases x <;> cases h
      | nil =>
        cases x <;> try (cases h; done)
        rename_i i
        obtain ⟨v, _, rfl, r1, rfl⟩ := rx
        cases r1
        obtain ⟨c, e⟩ := ite_some (c := -(2 ^ 63) ≤ i ∧ i < 2 ^ 63) h
        obtain ⟨k, e1, e⟩ := bind_some' e
        obtain ⟨x, e2, e⟩ := map_some' e
        cases e
        obtain ⟨v, e3, r1⟩ := hr.get e2
        exact ⟨a, vs, i, k, v, rfl, rfl, ha, c.1, c.2, by rw [← hr.length]; exact e1, e3, q _ _ ⟨_, rfl, hr.eraseIdx k⟩ r1⟩
  | clear =>
    cases xs with
    | cons _ _ => cases h
    | nil =>
      cases rx
      cases h
      exact ⟨a, vs, rfl, rfl, ha, q _ _ ⟨[], rfl, Reps.nil⟩ rfl⟩
theorem isLst_ok {Γ : Env} {σ : St} {M H : Hp} {i : Nat} (o : OkS cl Γ σ M H) (h : isLst (Γ.at i) = true) : ∃ ds a vs, Γ.at i = some (.lst ds, true) ∧ σ[i]? = some (some (.ref a)) ∧ H a = some (.lst vs) ∧ Reps cl M ds vs := by
  cases e : Γ.at i with
  | none => rw [e] at h; cases h
  | some x =>
    obtain ⟨d, b⟩ := x
    rw [e] at h
    cases d <;> cases b <;> try (cases h; done)
    obtain ⟨v, e1, s⟩ := o.slot i _ _ e
    obtain ⟨a, ob, rfl, m, hh, t⟩ := (show ∃ a o, v = V.ref a ∧ M a = none ∧ H a = some o ∧ Top cl M _ o from s)
    obtain ⟨vs, rfl, r⟩ := t
    exact ⟨_, a, vs, rfl, e1, hh, r⟩
theorem mutD_lst {m : Mu} {d : D} {xs : List D} {z : D × D} (h : mutD m d xs = some z) : ∃ ds, d = .lst ds := by
  cases m <;> cases d <;> first | exact ⟨_, rfl⟩ | (cases h; done)
theorem snd_mut {m : Mu} {i : Nat} {ta : TA} {x : Env → Option (List R × Env)} (ha : SndA cl lk ta x) :
    SndE cl lk (tBM cl.K "list" (rMu m) (tVar i) ta) (fun Γ => if isLst (Γ.at i) then (x Γ).bind fun p => (keepRs lk p.1 p.2).bind fun q => match q.2.at i with
      | some (d, true) => (mutD m d q.1).map fun z => (.sh z.2, q.2.set i (some (z.1, true)))
      | _ => none
    else none) := by
  intro Γ r Γ' e σ M H ok Q q
  obtain ⟨c, e⟩ := ite_some e
  obtain ⟨⟨rs, Γ1⟩, e1, e⟩ := bind_some' e
  obtain ⟨⟨ds, Γ2⟩, e2, e⟩ := bind_some' e
  obtain ⟨xs, a, vs, k1, k2, k3, k4⟩ := isLst_ok ok c
  refine ⟨.ref a, k2, .inl ⟨rfl, _, SqL.of k3⟩, ?_⟩
  refine ha Γ rs Γ1 e1 σ M H ok _ fun us M1 H1 s1 n1 v1 => ?_
  obtain ⟨M2, s2, n2, r2, _⟩ := keep_post ok s1 n1 v1 e2
  cases e3 : Γ2.at i with
  | none => simp only [e3] at e; cases e
  | some y =>
    obtain ⟨d, b⟩ := y
    simp only [e3] at e
    cases b with
    | false => cases e
    | true =>
      obtain ⟨z, e4, e⟩ := map_some' e
      cases e
      obtain ⟨d', rr⟩ := z
      obtain ⟨ds', ed⟩ := mutD_lst e4
      subst ed
      obtain ⟨v, e5, s⟩ := s2.ok.slot i _ _ e3
      rw [k2] at e5
      cases e5
      obtain ⟨a', ob, ea, m, hh, t⟩ := (show ∃ a' o, V.ref a = V.ref a' ∧ M2 a' = none ∧ H1 a' = some o ∧ Top cl M2 _ o from s)
      cases ea
      obtain ⟨ws, rfl, hr⟩ := t
      refine mut_ok s2.ok.sub rfl hh hr r2 e4 fun w o' t' rw' => ?_
      obtain ⟨s3, n3⟩ := s2.ok.put (lk := lk) e3 k2 t'
      exact q w M2 _ (s2.trans s3 s2.own) (n2.trans n3) rw'
/-! ### what is walked -/
theorem walks_list {M : Hp} {a : Addr} {vs : List V} {ds : List D} (m : SqL cl.K M a vs) (r : Reps cl M ds vs) : Walks cl M (Itl cl.K a) ds := by
  have up : ∀ {M1 H : Hp}, Same M M1 → Same M1 H → SqL cl.K H a vs := fun s1 s2 => s2.seq (s1.seq m)
  refine ⟨fun i d M1 H s1 s2 e => ?_, fun H s => ⟨vs, up (Same.refl M) s, by rw [r.length]; exact Nat.le_refl _⟩⟩
  obtain ⟨v, e1, r1⟩ := r.get e
  refine ⟨⟨vs, v, up s1 s2, e1⟩, fun x H' ⟨eh, hy⟩ => ?_⟩
  subst eh
  have e2 := hy vs (up s1 s2)
  rw [e1] at e2
  cases e2
  exact ⟨M1, ext_refl s2, r1.mono s1⟩
theorem walks_tup {M : Hp} {a : Addr} {vs : List V} {ds : List D} (m : M a = some (.tup vs)) (r : Reps cl M ds vs) : Walks cl M (Itt cl.K a) ds := by
  have up : ∀ {M1 H : Hp}, Same M M1 → Same M1 H → SqT cl.K H a vs := fun s1 s2 => .inl (.inl (s2 _ _ (s1 _ _ m)))
  refine ⟨fun i d M1 H s1 s2 e => ?_, fun H s => ⟨vs, up (Same.refl M) s, by rw [r.length]; exact Nat.le_refl _⟩⟩
  obtain ⟨v, e1, r1⟩ := r.get e
  refine ⟨⟨vs, v, up s1 s2, e1⟩, fun x H' ⟨eh, hy⟩ => ?_⟩
  subst eh
  have e2 := hy vs (up s1 s2)
  rw [e1] at e2
  cases e2
  exact ⟨M1, ext_refl s2, r1.mono s1⟩
theorem walks_rng {M : Hp} {lo hi : Int} : Walks cl M (Itr lo (hi - lo).toNat) (rangeD lo hi) := by
  refine ⟨fun i d M1 H s1 s2 e => ?_, fun H s => by unfold rangeD; rw [List.length_map, List.length_range]; exact Nat.le_refl _⟩
  have hi' : i < (hi - lo).toNat := by
    have := (List.getElem?_eq_some_iff.mp e).1
    unfold rangeD at this
    rw [List.length_map, List.length_range] at this
    exact this
  refine ⟨hi', fun x H' ⟨eh, hy⟩ => ?_⟩
  subst eh hy
  refine ⟨M1, ext_refl s2, ?_⟩
  unfold rangeD at e
  rw [List.getElem?_map, List.getElem?_range hi'] at e
  cases e
  exact rfl
theorem walks_enum {M : Hp} {a : Addr} {vs : List V} {ds : List D} (m : SqL cl.K M a vs) (r : Reps cl M ds vs) : Walks cl M (Ite cl.K a) (ds.zipIdx.map (fun x => .tup [.int x.2, x.1])) := by
  have up : ∀ {M1 H : Hp}, Same M M1 → Same M1 H → SqL cl.K H a vs := fun s1 s2 => s2.seq (s1.seq m)
  refine ⟨fun i d M1 H s1 s2 e => ?_, fun H s => ⟨vs, up (Same.refl M) s, by rw [List.length_map, List.length_zipIdx, r.length]; exact Nat.le_refl _⟩⟩
  rw [List.getElem?_map, List.getElem?_zipIdx] at e
  obtain ⟨y, e0, e⟩ := map_some' e
  obtain ⟨d0, e1, e2⟩ := map_some' e0
  subst e2
  subst e
  obtain ⟨v, e3, r1⟩ := r.get e1
  refine ⟨⟨vs, v, up s1 s2, e3⟩, fun x H' ⟨T, y, ex, hT, eh, hy⟩ => ?_⟩
  subst ex eh
  have e4 := hy vs (up s1 s2)
  rw [e3] at e4
  cases e4
  refine ⟨_, ext_sh s2 hT, T, _, rfl, upd_same, ?_⟩
  have sm := upd_same_sub (o := HO.tup [.int (i : Nat), v]) (s2.free hT)
  refine Reps.cons ?_ (Reps.cons (Rep.mono (s1.trans sm) r1) Reps.nil)
  show V.int (i : Nat) = V.int _
  simp
theorem snd_itL {te : TE} {x : Env → Option (R × Env)} (h : SndE cl lk te x) : SndI cl lk (iList cl.K te) (fun Γ => (x Γ).bind fun p => (keepR lk p.1 p.2).bind fun q => match q.1.un with
      | .lst ds => some (ds, q.2)
      | .scr ns => some (ns.map .int, q.2)
      | _ => none) := by
  intro Γ ds Γ' e σ M H ok Q q
  obtain ⟨⟨r, Γ1⟩, e1, e⟩ := bind_some' e
  obtain ⟨⟨d, Γ2⟩, e2, e⟩ := bind_some' e
  refine h Γ r Γ1 e1 σ M H ok _ fun v M1 H1 s1 n1 v1 => ?_
  obtain ⟨M2, s2, n2, r2, _⟩ := keep1_post ok s1 n1 v1 e2
  have r2 := r2.un
  simp only at e
  generalize d.un = d at e r2
  cases d <;> try (cases e; done)
  · cases e
    obtain ⟨a, vs, rfl, m, r3⟩ := r2
    exact ⟨a, rfl, ⟨vs, SqL.of (s2.ok.sub _ _ m)⟩, q _ M2 H1 s2 n2 (walks_list (SqL.of m) r3)⟩
  · cases e
    obtain ⟨a, rfl, m⟩ := r2
    exact ⟨a, rfl, ⟨_, s2.ok.sub.seq m⟩, q _ M2 H1 s2 n2 (walks_list m (reps_ints _))⟩
theorem snd_itT {te : TE} {x : Env → Option (R × Env)} (h : SndE cl lk te x) : SndI cl lk (iTup cl.K te) (fun Γ => (x Γ).bind fun p => (keepR lk p.1 p.2).bind fun q => match q.1.un with
      | .tup ds => some (ds, q.2)
      | _ => none) := by
  intro Γ ds Γ' e σ M H ok Q q
  obtain ⟨⟨r, Γ1⟩, e1, e⟩ := bind_some' e
  obtain ⟨⟨d, Γ2⟩, e2, e⟩ := bind_some' e
  refine h Γ r Γ1 e1 σ M H ok _ fun v M1 H1 s1 n1 v1 => ?_
  obtain ⟨M2, s2, n2, r2, _⟩ := keep1_post ok s1 n1 v1 e2
  have r2 := r2.un
  simp only at e
  generalize d.un = d at e r2
  cases d <;> try (cases e; done)
  cases e
  obtain ⟨a, vs, rfl, m, r3⟩ := r2
  exact ⟨a, rfl, ⟨vs, SqT.of (s2.ok.sub _ _ m)⟩, q _ M2 H1 s2 n2 (walks_tup m r3)⟩
theorem snd_itR1 {ta : TA} {x : Env → Option (List R × Env)} (h : SndA cl lk ta x) : SndI cl lk (iRng1 ta) (fun Γ => (x Γ).bind fun p => (getRs p.2 p.1).bind fun ds => match ds with
      | [.int j] => if -(2 ^ 62) ≤ j ∧ j < 2 ^ 62 then some (rangeD 0 j, p.2) else none
      | _ => none) := by
  intro Γ ds Γ' e σ M H ok Q q
  obtain ⟨⟨r, Γ1⟩, e1, e⟩ := bind_some' e
  obtain ⟨xs, e2, e⟩ := bind_some' e
  refine h Γ r Γ1 e1 σ M H ok _ fun v M1 H1 s1 n1 v1 => ?_
  have r1 := v1.get s1.ok e2
  cases xs with
  | nil => cases e
  | cons x xs =>
    cases xs with
    | cons _ _ => cases x <;> cases e
    | nil =>
      cases x <;> try (cases e; done)
      rename_i j
      obtain ⟨c, e⟩ := ite_some (c := -(2 ^ 62) ≤ j ∧ j < 2 ^ 62) e
      cases e
      obtain ⟨v, us, rfl, r2, rfl⟩ := r1
      cases r1_int r2
      refine ⟨j, rfl, c.1, c.2, q _ M1 H1 s1 n1 ?_⟩
      have w := walks_rng (cl := cl) (M := M1) (lo := 0) (hi := j)
      rw [Int.sub_zero] at w
      exact w
theorem snd_itR2 {ta : TA} {x : Env → Option (List R × Env)} (h : SndA cl lk ta x) : SndI cl lk (iRng2 ta) (fun Γ => (x Γ).bind fun p => (getRs p.2 p.1).bind fun ds => match ds with
      | [.int i, .int j] => if -(2 ^ 62) ≤ i ∧ i < 2 ^ 62 ∧ -(2 ^ 62) ≤ j ∧ j < 2 ^ 62 then some (rangeD i j, p.2) else none
      | _ => none) := by
  intro Γ ds Γ' e σ M H ok Q q
  obtain ⟨⟨r, Γ1⟩, e1, e⟩ := bind_some' e
  obtain ⟨xs, e2, e⟩ := bind_some' e
  refine h Γ r Γ1 e1 σ M H ok _ fun v M1 H1 s1 n1 v1 => ?_
  have r1 := v1.get s1.ok e2
  cases xs with
  | nil => cases e
  | cons x xs =>
    cases xs with
    | nil => cases x <;> cases e
    | cons y xs =>
      cases xs with
      | cons _ _ => cases x <;> cases y <;> cases e
      | nil =>
        cases x <;> cases y <;> try (cases e; done)
        rename_i i j
        obtain ⟨c, e⟩ := ite_some (c := -(2 ^ 62) ≤ i ∧ i < 2 ^ 62 ∧ -(2 ^ 62) ≤ j ∧ j < 2 ^ 62) e
        cases e
        obtain ⟨v, us, rfl, r2, v', us', rfl, r3, rfl⟩ := r1
        cases r1_int r2
        cases r1_int r3
        exact ⟨i, j, rfl, c, q _ M1 H1 s1 n1 walks_rng⟩
theorem snd_itE {ta : TA} {x : Env → Option (List R × Env)} (h : SndA cl lk ta x) : SndI cl lk (iEnum cl.K ta) (fun Γ => (x Γ).bind fun p => (keepRs lk p.1 p.2).bind fun q => match q.1.map D.un with
      | [.lst ds] => some (ds.zipIdx.map (fun x => .tup [.int x.2, x.1]), q.2)
      | [.scr ns] => some (ns.zipIdx.map (fun x => .tup [.int x.2, .int x.1]), q.2)
      | _ => none) := by
  intro Γ ds Γ' e σ M H ok Q q
  obtain ⟨⟨r, Γ1⟩, e1, e⟩ := bind_some' e
  obtain ⟨⟨xs, Γ2⟩, e2, e⟩ := bind_some' e
  refine h Γ r Γ1 e1 σ M H ok _ fun v M1 H1 s1 n1 v1 => ?_
  obtain ⟨M2, s2, n2, r2, _⟩ := keep_post ok s1 n1 v1 e2
  have r2 := r2.un
  simp only at e
  generalize xs.map D.un = xs at e r2
  cases xs with
  | nil => cases e
  | cons x xs =>
    cases xs with
    | cons _ _ => cases x <;> cases e
    | nil =>
      cases x <;> try (cases e; done)
      · cases e
        obtain ⟨_, _, rfl, ⟨a, vs, rfl, m, r3⟩, rfl⟩ := r2
        exact ⟨a, vs, rfl, SqL.of (s2.ok.sub _ _ m), q _ M2 H1 s2 n2 (walks_enum (SqL.of m) r3)⟩
      · rename_i ns
        cases e
        obtain ⟨_, _, rfl, ⟨a, rfl, m⟩, rfl⟩ := r2
        refine ⟨a, _, rfl, s2.ok.sub.seq m, q _ M2 H1 s2 n2 ?_⟩
        have w := walks_enum (cl := cl) m (reps_ints ns)
        have e : ((ns.map D.int).zipIdx.map fun x => D.tup [.int x.2, x.1]) = ns.zipIdx.map fun x => D.tup [.int x.2, .int x.1] := by
          rw [List.zipIdx_map, List.map_map]
          rfl
        rw [e] at w
        exact w
end Dv
namespace Dv
open PySem PySem.Spec L2
variable {cl : Ct} {lk : List Nat}
/-! ### calls -/
def ArgsOk (cl : Ct) (M H : Hp) : List Bool → List D → List V → Prop
  | false :: io, d :: ds, v :: vs => Rep cl M d v ∧ ArgsOk cl M H io ds vs
  | true :: io, d :: ds, v :: vs => (∃ a o, v = .ref a ∧ M a = none ∧ H a = some o ∧ Top cl M d o ∧ cl.N a) ∧ ArgsOk cl M H io ds vs
  | [], [], [] => True
  | _, _, _ => False
/-- the arguments that the call changes -/
def ioVals : List Bool → List V → List V
  | true :: io, v :: vs => v :: ioVals io vs
  | false :: io, _ :: vs => ioVals io vs
  | _, _ => []
def inA (io : List Bool) (vs : List V) (a : Addr) : Prop := .ref a ∈ ioVals io vs
def IosOk (cl : Ct) (M H : Hp) : List Bool → List V → List D → Prop
  | true :: io, v :: vs, d :: ds => (∃ a o, v = .ref a ∧ M a = none ∧ H a = some o ∧ Top cl M d o) ∧ IosOk cl M H io vs ds
  | false :: io, _ :: vs, ds => IosOk cl M H io vs ds
  | [], [], [] => True
  | _, _, _ => False
def ResOk (cl : Ct) (N : Addr → Prop) (M H : Hp) (d : D) (b : Bool) (v : V) : Prop :=
  if b then ∃ a o, v = .ref a ∧ M a = none ∧ H a = some o ∧ Top cl M d o ∧ N a else Rep cl M d v
/-- what a def promises whose value on data is φ -/
def spOf (c0 : Ct0) (sg : Sig) (φ : Sem') : Sp := fun vs H Q _ => ∃ (cl : Ct) (M : Hp) (ds : List D), cl.toCt0 = c0 ∧ (∀ a, H a = none → cl.N a) ∧ Same M H ∧ ArgsOk cl M H sg.io ds vs ∧ (ioVals sg.io vs).Nodup ∧ ∃ d b xs, φ ds = some (d, b, xs) ∧
  ∀ v M' H', Fr (inA sg.io vs) M H M' H' → Same M' H' → IosOk cl M' H' sg.io vs xs → ResOk cl (fun a => H a = none) M' H' d b v → Q v H'
theorem ArgsOk.len {M H : Hp} : ∀ {io : List Bool} {ds : List D} {vs : List V}, ArgsOk cl M H io ds vs → vs.length = io.length ∧ ds.length = io.length
  | [], [], [], _ => ⟨rfl, rfl⟩
  | false :: io, d :: ds, v :: vs, h => by have q := ArgsOk.len h.2; exact ⟨by simp [q.1], by simp [q.2]⟩
  | true :: io, d :: ds, v :: vs, h => by have q := ArgsOk.len h.2; exact ⟨by simp [q.1], by simp [q.2]⟩
  | [], [], _ :: _, h => h.elim
  | [], _ :: _, _, h => h.elim
  | false :: _, [], _, h => h.elim
  | true :: _, [], _, h => h.elim
  | false :: _, _ :: _, [], h => h.elim
  | true :: _, _ :: _, [], h => h.elim
theorem spOf_len {sg : Sig} {φ : Sem'} {vs : List V} {H : Hp} {Q : VK} {E : XK} (h : spOf cl.toCt0 sg φ vs H Q E) : vs.length = sg.io.length := by
  obtain ⟨c1, M, ds, _, _, _, h, _⟩ := h
  exact h.len.1
theorem ArgsOk.of_reps {M H : Hp} : ∀ {io : List Bool} {ds : List D} {vs : List V}, io.all (fun b => !b) = true → ds.length = io.length → Reps cl M ds vs → ArgsOk cl M H io ds vs
  | [], [], _, _, _, r => by cases r; trivial
  | false :: io, d :: ds, _, h, l, ⟨v, vs, e, a, b⟩ => by
    subst e
    exact ⟨a, ArgsOk.of_reps (by simpa using h) (by simpa using l) b⟩
  | true :: io, _, _, h, _, _ => by simp at h
  | [], _ :: _, _, _, l, _ => by simp at l
  | _ :: _, [], _, _, l, _ => by simp at l
theorem ioVals_none : ∀ {io : List Bool} {vs : List V}, io.all (fun b => !b) = true → ioVals io vs = []
  | [], _, _ => by cases ‹List V› <;> rfl
  | false :: io, [], _ => rfl
  | false :: io, v :: vs, h => ioVals_none (io := io) (by simpa using h)
  | true :: io, _, h => by simp at h
theorem IosOk_none {M H : Hp} : ∀ {io : List Bool} {vs : List V} {xs : List D}, io.all (fun b => !b) = true → IosOk cl M H io vs xs → xs = []
  | [], [], [], _, _ => rfl
  | [], [], _ :: _, _, h => h.elim
  | [], _ :: _, _, _, h => by cases ‹List D› <;> exact h.elim
  | false :: io, [], _, _, h => h.elim
  | false :: io, v :: vs, xs, q, h => IosOk_none (io := io) (by simpa using q) h
  | true :: io, _, _, h, _ => by simp at h
theorem rvs_len {Γ : Env} {σ : St} {M H : Hp} : ∀ {rs : List R} {vs : List V} {N : Addr → Prop}, RVs cl Γ σ M H N rs vs → vs.length = rs.length
  | [], _, _, h => by cases h; rfl
  | r :: rs, _, N, ⟨v, us, e, a, b⟩ => by subst e; simp [rvs_len b]
theorem mapM_len {α β : Type} {f : α → Option β} : ∀ {xs : List α} {ys : List β}, xs.mapM f = some ys → ys.length = xs.length
  | [], ys, h => by cases h; rfl
  | x :: xs, ys, h => by
    rw [List.mapM_cons] at h
    obtain ⟨y, e1, h⟩ := bind_some' h
    obtain ⟨zs, e2, h⟩ := bind_some' h
    cases h
    simp [mapM_len e2]
/-- what is shared stays -/
def ShK (Γ Γ' : Env) : Prop := ∀ i d, Γ.at i = some (d, false) → Γ'.at i = some (d, false)
theorem frz_shk {lk : List Nat} {i : Nat} {Γ Γ' : Env} (h : frz lk i Γ = some Γ') : ShK Γ Γ' := by
  unfold frz at h
  cases e : Γ.at i with
  | none => rw [e] at h; cases h
  | some x =>
    obtain ⟨d, b⟩ := x
    rw [e] at h
    cases b with
    | false => cases h; exact fun _ _ h => h
    | true =>
      have h' : (if i ∈ lk then none else some (List.set Γ i (some (.nw d, false)))) = some Γ' := h
      by_cases hl : i ∈ lk
      · rw [if_pos hl] at h'; cases h'
      · rw [if_neg hl] at h'
        cases h'
        have hi := at_lt e
        intro j d' q
        by_cases z : i = j
        · subst z; rw [e] at q; cases q
        · rw [at_set_ne z]; exact q
/-- a shared argument's datum -/
def argK (Γ : Env) : R → D → Prop
  | .sh e, d => e = d
  | .ow e, d => .nw e = d
  | .bo i, d => Γ.at i = some (d, false)
theorem argK.up {Γ Γ' : Env} (s : ShK Γ Γ') {r : R} {d : D} (h : argK Γ r d) : argK Γ' r d := by
  cases r with
  | sh e => exact h
  | ow e => exact h
  | bo i => exact s i d h
theorem argK.eq {Γ : Env} {r : R} {d : D} (h : argK Γ r d) : argR Γ false r = some d := by
  cases r with
  | sh e => exact congrArg some h
  | ow e => exact congrArg some h
  | bo i =>
    show (Γ.at i).map (·.1) = some d
    rw [show Γ.at i = some (d, false) from h]
    rfl
/-- the arguments: those that the call does not change are shared -/
def ArgsP (cl : Ct) (Γ : Env) (σ : St) (M H : Hp) : (Addr → Prop) → List Bool → List R → List V → Prop
  | N, false :: io, r :: rs, vs => ∃ v us, vs = v :: us ∧ (∃ d, argK Γ r d ∧ Rep cl M d v) ∧ ArgsP cl Γ σ M H (fun a => N a ∧ ¬ trk r v a) io rs us
  | N, true :: io, r :: rs, vs => ∃ v us, vs = v :: us ∧ RV cl N Γ σ M H r v ∧ ArgsP cl Γ σ M H (fun a => N a ∧ ¬ trk r v a) io rs us
  | _, [], [], vs => vs = []
  | _, _, _, _ => False
theorem RV.at {N : Addr → Prop} {Γ : Env} {σ : St} {M H : Hp} {r : R} {v : V} (h : RV cl N Γ σ M H r v) : RV cl (fun a => N a ∧ trk r v a) Γ σ M H r v := by
  cases r with
  | sh d => exact h
  | ow d => obtain ⟨a, o, e, m, q, t, y, z⟩ := h; exact ⟨a, o, e, m, q, t, ⟨y, e⟩, z⟩
  | bo i => exact h
theorem argsF_ok {lk : List Nat} {σ : St} {H : Hp} : ∀ {io : List Bool} {rs : List R} {vs : List V} {N : Addr → Prop} {Γ Γ' : Env} {M : Hp}, OkS cl Γ σ M H → (∀ a, N a → cl.N a) → RVs cl Γ σ M H N rs vs → argsF lk io rs Γ = some Γ' →
    ∃ M', Stp cl lk (fun a => isOwn Γ σ a ∨ N a) Γ σ M H Γ' σ M' H ∧ Names' Γ Γ' ∧ ShK Γ Γ' ∧ ArgsP cl Γ' σ M' H N io rs vs
  | [], [], vs, N, Γ, Γ', M, o, hN, h, k => by
    cases k
    exact ⟨M, Stp.refl o fun _ h => .inl h, Names'.refl, fun _ _ h => h, h⟩
  | [], _ :: _, _, _, _, _, _, _, _, _, k => by cases k
  | b :: io, [], _, _, _, _, _, _, _, _, k => by cases b <;> cases k
  | b :: io, r :: rs, vs, N, Γ, Γ', M, o, hN, ⟨v, us, e, h1, h2⟩, k => by
    subst e
    -- one step for the first argument, then the others
    have go : ∀ {Γ1 : Env} {M1 : Hp}, Stp cl lk (fun a => isOwn Γ σ a ∨ (N a ∧ trk r v a)) Γ σ M H Γ1 σ M1 H → Names' Γ Γ1 → ShK Γ Γ1 → argsF lk io rs Γ1 = some Γ' → (b = false → ∃ d, argK Γ1 r d ∧ Rep cl M1 d v) →
        (b = true → RV cl N Γ1 σ M1 H r v) → ∃ M', Stp cl lk (fun a => isOwn Γ σ a ∨ N a) Γ σ M H Γ' σ M' H ∧ Names' Γ Γ' ∧ ShK Γ Γ' ∧ ArgsP cl Γ' σ M' H N (b :: io) (r :: rs) (v :: us) := by
      intro Γ1 M1 s1 n1 d1 k1 f1 t1
      have h2' := h2.step s1 n1 fun a q => q.imp id fun z y => y.2 z.2
      obtain ⟨M2, s2, n2, d2, p2⟩ := argsF_ok s1.ok (fun a z => hN a z.1) h2' k1
      refine ⟨M2, (s1.imp fun a q => q.imp id And.left).trans s2 fun a q => ?_, n1.trans n2, fun i d q => d2 i d (d1 i d q), ?_⟩
      · rcases q with q | q
        · exact (s1.own a q).imp (fun z => z.imp id And.left) id
        · exact .inl (.inr q.1)
      · cases b with
        | false =>
          obtain ⟨d, w1, w2⟩ := f1 rfl
          exact ⟨v, us, rfl, ⟨d, w1.up d2, w2.mono s2.fr.subM⟩, p2⟩
        | true => exact ⟨v, us, rfl, ((t1 rfl).at.step s2 n2 fun a q => q.imp id fun z y => z.2 y.2).imp fun a q => q.1, p2⟩
    cases b with
    | true =>
      have k1 : argsF lk io rs Γ = some Γ' := by
        cases r <;> exact k
      exact go (Stp.refl o fun a q => .inl q) Names'.refl (fun _ _ h => h) k1 (fun z => nomatch z) fun _ => h1
    | false =>
      cases r with
      | sh d => exact go (Stp.refl o fun a q => .inl q) Names'.refl (fun _ _ h => h) k (fun _ => ⟨d, rfl, h1⟩) fun z => nomatch z
      | ow d =>
        obtain ⟨M1, s1, n1, r1⟩ := keepR_ok (lk := lk) o hN h1 (show keepR lk (.ow d) Γ = some (.nw d, Γ) from rfl)
        exact go s1 n1 (fun _ _ h => h) k (fun _ => ⟨_, rfl, r1⟩) fun z => nomatch z
      | bo i =>
        obtain ⟨Γ1, e1, k1⟩ := bind_some' (show (frz lk i Γ).bind (argsF lk io rs) = some Γ' from k)
        obtain ⟨es, x, ex⟩ := h1
        obtain ⟨xd, xb⟩ := x
        obtain ⟨M0, s0, n0, hs⟩ := frz_ok o e1
        have hs1 := hs _ _ ex
        obtain ⟨M1, s1, n1, r1⟩ := keepR_ok (lk := lk) (r := .bo i) (d := if xb then .nw xd else xd) (Γ' := Γ1) o hN ⟨es, _, ex⟩ (by show ((frz lk i Γ).bind fun Γ' => (Γ'.at i).map fun p => (p.1, Γ')) = _; rw [e1]; show ((Γ1.at i).map fun p => (p.1, Γ1)) = _; rw [hs1]; rfl)
        exact go s1 n1 (frz_shk e1) k1 (fun _ => ⟨_, hs1, r1⟩) fun z => nomatch z
/-- who stands at a changed argument -/
theorem ioVals_mem {Γ : Env} {σ : St} {M H : Hp} : ∀ {io : List Bool} {rs : List R} {vs : List V} {N : Addr → Prop}, ArgsP cl Γ σ M H N io rs vs → argsOk Γ io rs = true → ∀ a, .ref a ∈ ioVals io vs → (∃ j d, j ∈ ioVars io rs ∧ σ[j]? = some (some (.ref a)) ∧ Γ.at j = some (d, true)) ∨ (N a ∧ ¬ isOwn Γ σ a)
  | [], [], vs, N, h, k, a, m => by cases h; cases m
  | [], _ :: _, _, _, h, _, _, _ => h.elim
  | false :: io, [], _, _, h, _, _, _ => h.elim
  | true :: io, [], _, _, h, _, _, _ => h.elim
  | false :: io, r :: rs, vs, N, ⟨v, us, e, h1, h2⟩, k, a, m => by
    subst e
    have k' : argsOk Γ io rs = true := by cases r <;> exact k
    rcases ioVals_mem h2 k' a m with ⟨j, d, q1, q2, q3⟩ | ⟨q1, q2⟩
    · exact .inl ⟨j, d, by cases r <;> exact q1, q2, q3⟩
    · exact .inr ⟨q1.1, q2⟩
  | true :: io, r :: rs, vs, N, ⟨v, us, e, h1, h2⟩, k, a, m => by
    subst e
    have k' : argsOk Γ io rs = true := by
      cases r with
      | sh d => cases k
      | ow d => exact k
      | bo i => exact (Bool.and_eq_true_iff.mp k).2
    rcases List.mem_cons.mp m with e | m
    · subst e
      cases r with
      | sh d => cases k
      | ow d => obtain ⟨b, o, e, m, q, t, y, z⟩ := h1; cases e; exact .inr ⟨y, z⟩
      | bo i =>
        obtain ⟨e, x, q⟩ := h1
        have k1 := (Bool.and_eq_true_iff.mp k).1
        obtain ⟨d, b⟩ := x
        simp only [q] at k1
        subst k1
        exact .inl ⟨i, d, List.mem_cons_self, e, q⟩
    · rcases ioVals_mem h2 k' a m with ⟨j, d, q1, q2, q3⟩ | ⟨q1, q2⟩
      · exact .inl ⟨j, d, by cases r <;> first | exact q1 | exact List.mem_cons_of_mem _ q1, q2, q3⟩
      · exact .inr ⟨q1.1, q2⟩
theorem args_end {Γ : Env} {σ : St} {M H : Hp} (o : OkS cl Γ σ M H) : ∀ {io : List Bool} {rs : List R} {vs : List V} {N : Addr → Prop} {ds : List D}, (∀ a, N a → cl.N a) → ArgsP cl Γ σ M H N io rs vs → argsOk Γ io rs = true → (ioVars io rs).Nodup → argRs Γ io rs = some ds → ArgsOk cl M H io ds vs ∧ (ioVals io vs).Nodup
  | [], [], vs, N, ds, hN, h, k, n, g => by cases h; cases g; exact ⟨trivial, List.nodup_nil⟩
  | [], _ :: _, _, _, _, _, h, _, _, _ => h.elim
  | false :: io, [], _, _, _, _, h, _, _, _ => h.elim
  | true :: io, [], _, _, _, _, h, _, _, _ => h.elim
  | b :: io, r :: rs, vs, N, ds, hN, h, k, n, g => by
    obtain ⟨d, e1, g⟩ := bind_some' (show ((argR Γ b r).bind fun d => (argRs Γ io rs).map (d :: ·)) = some ds from g)
    obtain ⟨es, e2, g⟩ := map_some' g
    subst g
    cases b with
    | false =>
      obtain ⟨v, us, e, ⟨d', h1, h1'⟩, h2⟩ := h
      subst e
      have k' : argsOk Γ io rs = true := by cases r <;> exact k
      have n' : (ioVars io rs).Nodup := by cases r <;> exact n
      obtain ⟨q1, q2⟩ := args_end o (fun a z => hN a z.1) h2 k' n' e2
      rw [h1.eq] at e1
      cases e1
      exact ⟨⟨h1', q1⟩, q2⟩
    | true =>
      obtain ⟨v, us, e, h1, h2⟩ := h
      subst e
      cases r with
      | sh d => cases k
      | ow d' =>
        cases e1
        obtain ⟨q1, q2⟩ := args_end o (fun a z => hN a z.1) h2 k n e2
        obtain ⟨a, ob, e, m, q, t, y, z⟩ := h1
        subst e
        refine ⟨⟨⟨a, ob, rfl, m, q, t, hN a y⟩, q1⟩, List.nodup_cons.mpr ⟨fun hm => ?_, q2⟩⟩
        rcases ioVals_mem h2 k a hm with ⟨j, d2, w1, w2, w3⟩ | ⟨w1, w2⟩
        · exact z ⟨j, d2, w3, w2⟩
        · exact w1.2 rfl
      | bo i =>
        obtain ⟨k1, k2⟩ := Bool.and_eq_true_iff.mp k
        obtain ⟨n1, n2⟩ := List.nodup_cons.mp (show (i :: ioVars io rs).Nodup from n)
        obtain ⟨q1, q2⟩ := args_end o (fun a z => hN a z.1) h2 k2 n2 e2
        obtain ⟨e, x, q⟩ := h1
        obtain ⟨xd, b⟩ := x
        simp only [q] at k1
        subst k1
        have e1' : (Γ.at i).map (·.1) = some d := e1
        rw [q] at e1'
        cases e1'
        obtain ⟨w, ew, s⟩ := o.slot i _ _ q
        rw [e] at ew
        cases ew
        obtain ⟨a, ob, rfl, m, hh, t⟩ := (show ∃ a o, v = V.ref a ∧ M a = none ∧ H a = some o ∧ Top cl M _ o from s)
        refine ⟨⟨⟨a, ob, rfl, m, hh, t, o.ownN a ⟨i, _, q, e⟩⟩, q1⟩, List.nodup_cons.mpr ⟨fun hm => ?_, q2⟩⟩
        rcases ioVals_mem h2 k2 a hm with ⟨j, d2, w1, w2, w3⟩ | ⟨w1, w2⟩
        · exact n1 (o.sep i j _ _ a q w3 e w2 ▸ w1)
        · exact w2 ⟨i, _, q, e⟩
end Dv
namespace Dv
open PySem PySem.Spec L2
variable {cl : Ct} {lk : List Nat}
/-- behind a call: the changed lists -/
theorem putIos_ok {σ : St} {M H : Hp} : ∀ {io : List Bool} {rs : List R} {vs : List V} {xs : List D} {Γ : Env}, IosOk cl M H io vs xs → rs.length = io.length → (∀ (k i : Nat) (v : V), rs[k]? = some (R.bo i) → vs[k]? = some v → σ[i]? = some (some v)) → argsOk Γ io rs = true → (ioVars io rs).Nodup →
    (∀ i d b, Γ.at i = some (d, b) → i ∉ ioVars io rs → ∃ v, σ[i]? = some (some v) ∧ SlotOk cl M H d b v) →
    (putIos io rs xs Γ).length = Γ.length ∧ (∀ i d b, (putIos io rs xs Γ).at i = some (d, b) → ∃ v, σ[i]? = some (some v) ∧ SlotOk cl M H d b v) ∧ (∀ i d, (putIos io rs xs Γ).at i = some (d, true) → ∃ d', Γ.at i = some (d', true)) ∧ (∀ i d, Γ.at i = some (d, true) → ∃ d', (putIos io rs xs Γ).at i = some (d', true)) ∧ Names' Γ (putIos io rs xs Γ)
  | [], rs, vs, xs, Γ, h, l, _, _, _, hs => by
    have e : putIos [] rs xs Γ = Γ := by unfold putIos; rfl
    rw [e]
    exact ⟨rfl, fun i d b q => hs i d b q (by unfold ioVars; exact List.not_mem_nil), fun i d q => ⟨d, q⟩, fun i d q => ⟨d, q⟩, Names'.refl⟩
  | b :: io, [], _, _, _, _, l, _, _, _, _ => by simp at l
  | false :: io, r :: rs, [], _, _, h, _, _, _, _, _ => h.elim
  | true :: io, r :: rs, [], _, _, h, _, _, _, _, _ => h.elim
  | false :: io, r :: rs, v :: vs, xs, Γ, h, l, hb, k, n, hs => by
    have e : putIos (false :: io) (r :: rs) xs Γ = putIos io rs xs Γ := by cases r <;> cases xs <;> rfl
    have ei : ioVars (false :: io) (r :: rs) = ioVars io rs := by cases r <;> rfl
    rw [e]
    exact putIos_ok (vs := vs) (io := io) h (by simpa using l) (fun k i v q1 q2 => hb (k + 1) i v (by simpa using q1) (by simpa using q2)) (by cases r <;> exact k) (ei ▸ n) (by rw [ei] at hs; exact hs)
  | true :: io, r :: rs, v :: vs, [], Γ, h, _, _, _, _, _ => h.elim
  | true :: io, r :: rs, v :: vs, x :: xs, Γ, ⟨h1, h⟩, l, hb, k, n, hs => by
    cases r with
    | sh d => cases k
    | ow d =>
      exact putIos_ok (io := io) (rs := rs) (vs := vs) h (by simpa using l) (fun k i v q1 q2 => hb (k + 1) i v (by simpa using q1) (by simpa using q2)) k n hs
    | bo i =>
      obtain ⟨k1, k2⟩ := Bool.and_eq_true_iff.mp k
      obtain ⟨n1, n2⟩ := List.nodup_cons.mp (show (i :: ioVars io rs).Nodup from n)
      cases e : Γ.at i with
      | none => simp only [e] at k1; cases k1
      | some y =>
        obtain ⟨d0, b0⟩ := y
        simp only [e] at k1
        subst k1
        have hi := at_lt e
        have ev : σ[i]? = some (some v) := hb 0 i v rfl rfl
        have k3 : argsOk (Γ.set i (some (x, true))) io rs = true := by
          clear hs hb h n n1 n2 l k
          induction io generalizing rs with
          | nil => unfold argsOk; rfl
          | cons b io ih =>
            cases rs with
            | nil => cases b <;> rfl
            | cons r rs =>
              cases b with
              | false => cases r <;> exact ih _ k2
              | true =>
                cases r with
                | sh d => cases k2
                | ow d => exact ih _ k2
                | bo j =>
                  obtain ⟨a1, a2⟩ := Bool.and_eq_true_iff.mp k2
                  refine Bool.and_eq_true_iff.mpr ⟨?_, ih _ a2⟩
                  by_cases q : i = j
                  · subst q; rw [at_set_same hi]
                  · rw [at_set_ne q]; exact a1
        obtain ⟨p1, p2, p3, p4, p5⟩ := putIos_ok (io := io) (rs := rs) (vs := vs) (xs := xs) (Γ := Γ.set i (some (x, true))) h (by simpa using l) (fun k i v q1 q2 => hb (k + 1) i v (by simpa using q1) (by simpa using q2)) k3 n2 (fun j d b q nj => by
          by_cases z : i = j
          · subst z
            rw [at_set_same hi] at q
            cases q
            exact ⟨v, ev, h1⟩
          · rw [at_set_ne z] at q
            exact hs j d b q fun hm => (List.mem_cons.mp (show j ∈ i :: ioVars io rs from hm)).elim (fun w => z w.symm) nj)
        refine ⟨by rw [show putIos (true :: io) (.bo i :: rs) (x :: xs) Γ = putIos io rs xs (Γ.set i (some (x, true))) from rfl, p1, List.length_set], p2, fun j d q => ?_, fun j d q => ?_, fun j y q => ?_⟩
        · obtain ⟨d', q'⟩ := p3 j d q
          by_cases z : i = j
          · subst z; exact ⟨_, e⟩
          · rw [at_set_ne z] at q'; exact ⟨d', q'⟩
        · by_cases z : i = j
          · subst z; exact p4 i x (at_set_same hi)
          · exact p4 j d (by rw [at_set_ne z]; exact q)
        · by_cases z : i = j
          · subst z; exact p5 i _ (at_set_same hi)
          · exact p5 j y (by rw [at_set_ne z]; exact q)
theorem rvs_at {Γ : Env} {σ : St} {M H : Hp} : ∀ {rs : List R} {vs : List V} {N : Addr → Prop}, RVs cl Γ σ M H N rs vs → ∀ (k i : Nat) (v : V), rs[k]? = some (R.bo i) → vs[k]? = some v → σ[i]? = some (some v)
  | [], _, _, _, k, i, v, q, _ => by simp at q
  | r :: rs, _, N, ⟨v, us, e, a, b⟩, 0, i, w, q1, q2 => by
    subst e
    simp at q1 q2
    subst q1 q2
    exact a.1
  | r :: rs, _, N, ⟨v, us, e, a, b⟩, k + 1, i, w, q1, q2 => by
    subst e
    exact rvs_at b k i w (by simpa using q1) (by simpa using q2)
theorem argsF_len {lk : List Nat} : ∀ {io : List Bool} {rs : List R} {Γ Γ' : Env}, argsF lk io rs Γ = some Γ' → rs.length = io.length
  | [], [], _, _, _ => rfl
  | [], _ :: _, _, _, h => by cases h
  | b :: io, [], _, _, h => by cases b <;> cases h
  | true :: io, r :: rs, Γ, Γ', h => by
    have h' : argsF lk io rs Γ = some Γ' := by cases r <;> exact h
    simp [argsF_len h']
  | false :: io, r :: rs, Γ, Γ', h => by
    cases r with
    | sh d => simp [argsF_len (show argsF lk io rs Γ = some Γ' from h)]
    | ow d => simp [argsF_len (show argsF lk io rs Γ = some Γ' from h)]
    | bo i =>
      obtain ⟨Γ1, e, h⟩ := bind_some' (show (frz lk i Γ).bind (argsF lk io rs) = some Γ' from h)
      simp [argsF_len h]
/-- whoever keeps the one keeps the other -/
def SpLe (a b : Sp) : Prop := ∀ vs H Q E, a vs H Q E → b vs H Q E
/-- a statement that changes nothing but what is new -/
def SpoOk (c0 : Ct0) (ws : List Nat) (t : TS) (Γ0 Γ : Env) : Prop := ∀ (cl : Ct) (σ : St) (M H : Hp), cl.toCt0 = c0 → OkS cl Γ σ M H → (∀ i d ds, i ∉ ws → Γ0.at i = some (d, false) → d.un = .lst ds → ∃ a, σ[i]? = some (some (.ref a)) ∧ ¬ cl.N a) → ∀ D : Ends,
  (∀ σ' H', (∀ a o, H a = some o → ¬ cl.N a → H' a = some o) → (∀ a, H a ≠ none → H' a ≠ none) → (∀ i, i ∉ ws → σ'[i]? = σ[i]?) → σ'.length = σ.length → D.nx σ' H') → t D σ H
/-- the promises are at least those of the evaluation -/
structure Sees (c0 : Ct0) (g : Cfg) (Φ : Pm) : Prop where
  cc : Φ.cc = c0.c
  call : ∀ f, SpLe (spOf c0 (g.sg f) (g.φ f)) (Φ.sp f)
  spo : ∀ ws u Γ0 Γ, g.sp ws u Γ0 Γ = true → ∀ E : XK, SpoOk c0 ws (trS c0.K (Φ.at E) u) Γ0 Γ
theorem Sees.at {c0 : Ct0} {g : Cfg} {Φ : Pm} (h : Sees c0 g Φ) (E : XK) : Sees c0 g (Φ.at E) := ⟨h.cc, h.call, h.spo⟩
theorem call_core {g : Cfg} {f : Nat} {sp : Sp} {E : XK} (hsp : SpLe (spOf cl.toCt0 (g.sg f) (g.φ f)) sp) {Γ Γ1 Γ' : Env} {r : R} {rs : List R} {σ : St} {M H M1 H1 : Hp} {vs : List V} {Q : VK} (ok : OkS cl Γ σ M H)
    (s1 : Stp cl g.lk (isOwn Γ σ) Γ σ M H Γ1 σ M1 H1) (n1 : Names' Γ Γ1) (v1 : RVs cl Γ1 σ M1 H1 (fun a => H a = none) rs vs) (e : callD g f rs Γ1 = some (r, Γ')) (q : PostE cl g.lk Γ σ M H r Γ' Q) : sp vs H1 Q E := by
  refine hsp _ _ _ _ ?_
  unfold callD at e
  by_cases hf : (g.sg f).fl = true
  · rw [if_pos hf] at e
    obtain ⟨c, e⟩ := ite_some e
    obtain ⟨ds, e2, e⟩ := bind_some' e
    obtain ⟨p, e3, e⟩ := bind_some' e
    obtain ⟨c2, e⟩ := ite_some e
    cases e
    obtain ⟨d, b, xs⟩ := p
    obtain ⟨c2, rfl⟩ : d.fl.isSome = true ∧ b = false := c2
    have hr := v1.reph s1.ok e2
    refine ⟨cl, H1, ds, rfl, s1.ok.fresh, Same.refl H1, ArgsOk.of_reps c.2 (by rw [mapM_len e2]; exact c.1) hr, by rw [ioVals_none c.2]; exact List.nodup_nil, d, false, xs, e3, fun v M' H' fr sm _ ro => ?_⟩
    obtain ⟨u, hu⟩ := Option.isSome_iff_exists.mp c2
    have nin : ∀ a, ¬ inA (g.sg f).io vs a := fun a h => by unfold inA at h; rw [ioVals_none c.2] at h; cases h
    have keep : Same H1 H' := fun a o h => fr.keep a o h (nin a)
    have ex : Ext M1 H1 M1 H' := ⟨⟨fun a o h _ => keep a o h, fr.live, Same.refl M1, fun a h h' => absurd h h'⟩, s1.ok.sub.trans keep⟩
    refine q v M1 H' (s1.trans (Stp.ext s1.ok ex fun a h => h) s1.own) n1 ?_
    have rv : Rep cl M' d v := ro
    cases rv.fl hu
    exact Rep.of_fl hu
  · rw [if_neg hf] at e
    obtain ⟨Γ2, e2, e⟩ := bind_some' e
    obtain ⟨c, e⟩ := ite_some e
    obtain ⟨ds, e3, e⟩ := bind_some' e
    obtain ⟨p, e4, e⟩ := bind_some' e
    obtain ⟨c2, e⟩ := ite_some e
    cases e
    obtain ⟨d, b, xs⟩ := p
    obtain ⟨M2, s2, n2, sd, ap⟩ := argsF_ok s1.ok ok.fresh v1 e2
    have s12 : Stp cl g.lk (isOwn Γ σ) Γ σ M H Γ2 σ M2 H1 := s1.trans s2 fun a h => h.elim (s1.own a) .inr
    obtain ⟨ao, nd⟩ := args_end s12.ok ok.fresh ap c.1 c.2 e3
    refine ⟨cl, M2, ds, rfl, s12.ok.fresh, s12.ok.sub, ao, nd, d, b, xs, e4, fun v M' H' fr sm io ro => ?_⟩
    have own_not : ∀ i d a, Γ2.at i = some (d, true) → σ[i]? = some (some (.ref a)) → i ∉ ioVars (g.sg f).io rs → ¬ inA (g.sg f).io vs a := fun i d a h1 h2 h3 h4 => by
      rcases ioVals_mem ap c.1 a h4 with ⟨j, d2, w1, w2, w3⟩ | ⟨w1, w2⟩
      · exact h3 (s12.ok.sep i j _ _ a h1 w3 h2 w2 ▸ w1)
      · exact w2 ⟨i, d, h1, h2⟩
    obtain ⟨p1, p2, p3, p4, p5⟩ := putIos_ok (Γ := Γ2) (σ := σ) io (argsF_len e2) (rvs_at v1) c.1 c.2 fun i d b h1 h2 => by
      obtain ⟨w, ew, s⟩ := s12.ok.slot i d b h1
      refine ⟨w, ew, ?_⟩
      cases b with
      | false => exact Rep.mono fr.subM s
      | true =>
        obtain ⟨a, ob, rfl, m, hh, t⟩ := (show ∃ a o, w = V.ref a ∧ M2 a = none ∧ H1 a = some o ∧ Top cl M2 d o from s)
        have no := own_not i d a h1 ew h2
        refine ⟨a, ob, rfl, ?_, fr.keep a ob hh no, t.mono fr.subM⟩
        cases z : M' a with
        | none => rfl
        | some u =>
          rcases fr.new a m (by rw [z]; exact fun z => nomatch z) with k | k
          · rw [k] at hh; cases hh
          · exact (no k).elim
    have ok3 : OkC cl (putIos (g.sg f).io rs xs Γ2) σ M' H' := ⟨p1.trans s12.ok.len, sm, p2, fun i j d1 d2 a h1 h2 h3 h4 => by
      obtain ⟨_, g1⟩ := p3 i d1 h1
      obtain ⟨_, g2⟩ := p3 j d2 h2
      exact s12.ok.sep i j _ _ a g1 g2 h3 h4⟩
    have inO : ∀ a, inA (g.sg f).io vs a → isOwn Γ2 σ a ∨ H a = none := fun a h => by
      rcases ioVals_mem ap c.1 a h with ⟨j, d2, w1, w2, w3⟩ | ⟨w1, w2⟩
      · exact .inl ⟨j, d2, w3, w2⟩
      · exact .inr w1
    have s3 : Stp cl g.lk (fun a => isOwn Γ2 σ a ∨ H a = none) Γ2 σ M2 H1 (putIos (g.sg f).io rs xs Γ2) σ M' H' :=
      Stp.mk' s12.ok (fun a z => z.elim (s12.ok.ownN a) (ok.fresh a)) ok3 ⟨fun a o h n => fr.keep a o h fun z => n (inO a z), fr.live, fr.subM, fun a h h' => (fr.new a h h').imp id (inO a)⟩ (fun a ⟨i, d, h1, h2⟩ => by
        obtain ⟨d', g1⟩ := p3 i d h1
        exact .inl (.inl ⟨i, d', g1, h2⟩)) (fun _ _ => rfl) (fun i d _ h => p4 i d h)
    have s4 : Stp cl g.lk (isOwn Γ σ) Γ σ M H (putIos (g.sg f).io rs xs Γ2) σ M' H' := s12.trans s3 fun a h => h.elim (s12.own a) .inr
    refine q v M' H' s4 ((n1.trans n2).trans p5) ?_
    cases b with
    | false => exact ro
    | true =>
      obtain ⟨a, ob, rfl, m, hh, t, fresh⟩ := (show ∃ a o, v = V.ref a ∧ M' a = none ∧ H' a = some o ∧ Top cl M' d o ∧ H1 a = none from ro)
      refine ⟨a, ob, rfl, m, hh, t, none_of_live s12.fr fresh, fun ⟨i, d, h1, h2⟩ => ?_⟩
      obtain ⟨d', g1⟩ := p3 i d h1
      exact (s12.ok.own_at ⟨i, d', g1, h2⟩).2 fresh
theorem snd_call {g : Cfg} {f : Nat} {ta : TA} {sp : Sp} {E : XK} {x : Env → Option (List R × Env)} (hsp : SpLe (spOf cl.toCt0 (g.sg f) (g.φ f)) sp) (ha : SndA cl g.lk ta x) : SndE cl g.lk (tCall sp [] E ta) (fun Γ => (x Γ).bind fun p => callD g f p.1 p.2) := by
  intro Γ r Γ' e σ M H ok Q q
  obtain ⟨⟨rs, Γ1⟩, e1, e⟩ := bind_some' e
  refine ha Γ rs Γ1 e1 σ M H ok _ fun vs M1 H1 s1 n1 v1 => ?_
  show sp (vs ++ []) H1 Q E
  rw [List.append_nil]
  exact call_core hsp ok s1 n1 v1 e q
end Dv
namespace Dv
open PySem PySem.Spec L2
variable {cl : Ct} {lk : List Nat}
/-! ### names set, comprehensions -/
theorem OkS.setSh {Γ : Env} {σ : St} {M H : Hp} {i : Nat} {d : D} {v : V} (o : OkS cl Γ σ M H) (hi : i < Γ.length) (hl : i ∉ lk) (r : Rep cl M d v) :
    Stp cl lk (isOwn Γ σ) Γ σ M H (Γ.set i (some (d, false))) (σ.set i (some v)) M H := by
  have hi' : i < σ.length := by rw [← o.len]; exact hi
  have ow : ∀ j d2, Env.at (Γ.set i (some (d, false))) j = some (d2, true) → j ≠ i ∧ Γ.at j = some (d2, true) := fun j d2 e => by
    by_cases q : i = j
    · subst q; rw [at_set_same hi] at e; cases e
    · rw [at_set_ne q] at e; exact ⟨Ne.symm q, e⟩
  have ne : ∀ j, j ≠ i → (σ.set i (some v))[j]? = σ[j]? := fun j q => List.getElem?_set_ne (Ne.symm q)
  refine Stp.mk' o o.ownN ⟨by rw [List.length_set, List.length_set]; exact o.len, o.sub, fun j d2 b2 e => ?_, fun j k d1 d2 a h1 h2 h3 h4 => ?_⟩ Fr.refl (fun a ⟨j, d2, h1, h2⟩ => ?_) (fun j hj => ne j fun z => hl (by rw [← z]; exact hj)) (fun j d2 hj e => ⟨d2, ?_⟩)
  · by_cases q : i = j
    · subst q
      rw [at_set_same hi] at e
      cases e
      exact ⟨v, List.getElem?_set_self hi', r⟩
    · rw [at_set_ne q] at e
      rw [ne j (Ne.symm q)]
      exact o.slot j d2 b2 e
  · obtain ⟨n1, g1⟩ := ow j d1 h1
    obtain ⟨n2, g2⟩ := ow k d2 h2
    rw [ne j n1] at h3
    rw [ne k n2] at h4
    exact o.sep j k d1 d2 a g1 g2 h3 h4
  · obtain ⟨n1, g1⟩ := ow j d2 h1
    rw [ne j n1] at h2
    exact .inl ⟨j, d2, g1, h2⟩
  · rw [at_set_ne (fun z => hl (by rw [z]; exact hj))]; exact e
theorem OkS.setOw {N : Addr → Prop} {Γ : Env} {σ : St} {M H : Hp} {i : Nat} {d : D} {v : V} (o : OkS cl Γ σ M H) (hN : ∀ a, N a → cl.N a) (hi : i < Γ.length) (hl : i ∉ lk) (r : RV cl N Γ σ M H (.ow d) v) :
    Stp cl lk (fun a => isOwn Γ σ a ∨ N a) Γ σ M H (Γ.set i (some (d, true))) (σ.set i (some v)) M H := by
  obtain ⟨a0, ob, rfl, m0, h0, t0, y0, z0⟩ := r
  have hi' : i < σ.length := by rw [← o.len]; exact hi
  have ow : ∀ j d2, j ≠ i → Env.at (Γ.set i (some (d, true))) j = some (d2, true) → Γ.at j = some (d2, true) := fun j d2 q e => by
    rw [at_set_ne (Ne.symm q)] at e; exact e
  have ne : ∀ j, j ≠ i → (σ.set i (some (V.ref a0)))[j]? = σ[j]? := fun j q => List.getElem?_set_ne (Ne.symm q)
  have self : (σ.set i (some (V.ref a0)))[i]? = some (some (V.ref a0)) := List.getElem?_set_self hi'
  refine Stp.mk' o (fun x z => z.elim (o.ownN x) (hN x)) ⟨by rw [List.length_set, List.length_set]; exact o.len, o.sub, fun j d2 b2 e => ?_, fun j k d1 d2 a h1 h2 h3 h4 => ?_⟩ Fr.refl (fun a ⟨j, d2, h1, h2⟩ => ?_) (fun j hj => ne j fun z => hl (by rw [← z]; exact hj)) (fun j d2 hj e => ⟨d2, ?_⟩)
  · by_cases q : i = j
    · subst q
      rw [at_set_same hi] at e
      cases e
      exact ⟨_, self, a0, ob, rfl, m0, h0, t0⟩
    · rw [at_set_ne q] at e
      rw [ne j (Ne.symm q)]
      exact o.slot j d2 b2 e
  · by_cases q1 : j = i
    · subst q1
      rw [self] at h3
      cases h3
      by_cases q2 : k = j
      · exact q2.symm
      · rw [ne k q2] at h4
        exact (z0 ⟨k, d2, ow k d2 q2 h2, h4⟩).elim
    · rw [ne j q1] at h3
      by_cases q2 : k = i
      · subst q2
        rw [self] at h4
        cases h4
        exact (z0 ⟨j, d1, ow j d1 q1 h1, h3⟩).elim
      · rw [ne k q2] at h4
        exact o.sep j k d1 d2 a (ow j d1 q1 h1) (ow k d2 q2 h2) h3 h4
  · by_cases q : j = i
    · subst q
      rw [self] at h2
      cases h2
      exact .inl (.inr y0)
    · rw [ne j q] at h2
      exact .inl (.inl ⟨j, d2, ow j d2 q h1, h2⟩)
  · rw [at_set_ne (fun z => hl (by rw [z]; exact hj))]; exact e
theorem gNames_ok {Γ0 : Env} {σ0 : St} {M H : Hp} {O : Addr → Prop} : ∀ {is : List Nat} {ds : List D} {vs : List V} {Γ Γ' : Env} {σ : St}, Stp cl lk O Γ0 σ0 M H Γ σ M H → (∀ a, isOwn Γ σ a → O a) → setNs is ds Γ = some Γ' → is.any (lk.contains ·) = false → Reps cl M ds vs →
    ∀ Q : St → Hp → Prop, (∀ σ', Stp cl lk O Γ0 σ0 M H Γ' σ' M H → (∀ a, isOwn Γ' σ' a → O a) → (∀ j, j ∉ is → σ'[j]? = σ[j]?) → (∀ j, j ∉ is → Γ'.at j = Γ.at j) → Γ'.length = Γ.length → Q σ' H) → gNames is vs σ H Q
  | [], [], vs, Γ, Γ', σ, s, so, e, _, r, Q, q => by
    cases e; cases r
    exact ⟨rfl, q σ s so (fun _ _ => rfl) (fun _ _ => rfl) rfl⟩
  | [], _ :: _, _, _, _, _, _, _, e, _, _, _, _ => by cases e
  | _ :: _, [], _, _, _, _, _, _, e, _, _, _, _ => by cases e
  | i :: is, d :: ds, vs, Γ, Γ', σ, s, so, e, hl, r, Q, q => by
    obtain ⟨v, us, h0, r1, r2⟩ := r
    subst h0
    obtain ⟨hi, e⟩ := ite_some (c := i < Γ.length) e
    simp only [List.any_cons, Bool.or_eq_false_iff] at hl
    have hil : i ∉ lk := fun z => by
      have := hl.1
      simp [z] at this
    have s1 := s.ok.setSh (lk := lk) hi hil r1
    have s2 := s.trans (s1.imp so) fun a h => .inl h
    refine ⟨v, us, rfl, gNames_ok s2 (fun a h => (s1.own a h).elim (so a) fun z => ?_) e hl.2 r2 Q fun σ' s3 so3 k1 k2 k3 => q σ' s3 so3 (fun j hj => ?_) (fun j hj => ?_) (k3.trans (by rw [List.length_set]))⟩
    · exact absurd z (s1.ok.own_at h).2
    · rw [k1 j fun z => hj (List.mem_cons_of_mem _ z), List.getElem?_set_ne (fun z => hj (by rw [z]; exact List.mem_cons_self))]
    · rw [k2 j fun z => hj (List.mem_cons_of_mem _ z), at_set_ne (fun z => hj (by rw [z]; exact List.mem_cons_self))]
theorem gTup_ok {Γ Γ' : Env} {σ : St} {M H : Hp} {is : List Nat} {ds : List D} {x : V} (o : OkS cl Γ σ M H) (e : setNs is ds Γ = some Γ') (hl : is.any (lk.contains ·) = false) (r : Rep cl M (.tup ds) x) (Q : St → Hp → Prop)
    (q : ∀ σ', Stp cl lk (isOwn Γ σ) Γ σ M H Γ' σ' M H → (∀ j, j ∉ is → σ'[j]? = σ[j]?) → (∀ j, j ∉ is → Γ'.at j = Γ.at j) → Γ'.length = Γ.length → Q σ' H) : gTup cl.K is.length (gNames is) x σ H Q := by
  obtain ⟨a, vs, rfl, m, r⟩ := r
  have len : ∀ {is : List Nat} {ds : List D} {Γ Γ' : Env}, setNs is ds Γ = some Γ' → ds.length = is.length := by
    intro is
    induction is with
    | nil => intro ds Γ Γ' e; cases ds with | nil => rfl | cons _ _ => cases e
    | cons i is ih => intro ds Γ Γ' e; cases ds with
      | nil => cases e
      | cons d ds => obtain ⟨_, e⟩ := ite_some (c := i < Γ.length) e; simp [ih e]
  refine ⟨a, vs, rfl, SqT.of (o.sub _ _ m), by rw [← r.length, len e], ?_⟩
  exact gNames_ok (Stp.rfl' o) (fun a h => h) e hl r Q fun σ' s _ k1 k2 k3 => q σ' s k1 k2 k3
theorem bind_ok {Γ Γ' : Env} {σ : St} {M H : Hp} {tg : List Nat} {d : D} {x : V} (o : OkS cl Γ σ M H) (e : bindT lk tg d Γ = some Γ') (r : Rep cl M d x) (Q : St → Hp → Prop)
    (q : ∀ σ', Stp cl lk (isOwn Γ σ) Γ σ M H Γ' σ' M H → (∀ j, j ∉ tg → σ'[j]? = σ[j]?) → (∀ j, j ∉ tg → Γ'.at j = Γ.at j) → Γ'.length = Γ.length → Q σ' H) : trG cl.K tg x σ H Q := by
  unfold bindT at e
  cases hl : tg.any (lk.contains ·) with
  | true => rw [hl] at e; cases e
  | false =>
    rw [hl] at e
    have tup : ∀ {is : List Nat}, is = tg → tupT is d Γ = some Γ' → gTup cl.K is.length (gNames is) x σ H Q := fun {is} h1 h2 => by
      subst h1
      have r' := r.un
      unfold tupT at h2
      generalize d.un = d' at h2 r'
      cases d' <;> try (cases h2; done)
      exact gTup_ok o h2 hl r' Q q
    cases tg with
    | nil => exact tup rfl e
    | cons i is =>
      cases is with
      | cons j is => exact tup rfl e
      | nil =>
        obtain ⟨hi, e⟩ := ite_some (c := i < Γ.length) e
        cases e
        have hil : i ∉ lk := fun z => by
          simp at hl
          exact hl z
        exact q _ (o.setSh hi hil r) (fun j hj => List.getElem?_set_ne (fun z => hj (by rw [z]; exact List.mem_cons_self))) (fun j hj => at_set_ne (fun z => hj (by rw [z]; exact List.mem_cons_self))) (List.length_set ..)
theorem wipe_in {σ : St} {i : Nat} : ∀ {vs : List Nat}, i ∈ vs → i < σ.length → (wipe σ vs)[i]? = some none
  | [], h, _ => by cases h
  | v :: vs, h, l => by
    unfold wipe
    by_cases q : v = i
    · subst q
      rw [List.getElem?_set_self (by rw [wipe_length]; exact l)]
    · rw [List.getElem?_set_ne q]
      exact wipe_in ((List.mem_cons.mp h).resolve_left (Ne.symm q)) l
theorem wipe_eq {σ σ2 : St} {vs : List Nat} (hl : σ2.length = σ.length) (h : ∀ j, j ∉ vs → σ2[j]? = σ[j]?) : wipe σ2 vs = wipe σ vs := by
  refine List.ext_getElem? fun i => ?_
  by_cases hi : i ∈ vs
  · by_cases l : i < σ.length
    · rw [wipe_in hi (by omega), wipe_in hi l]
    · rw [List.getElem?_eq_none (by rw [wipe_length]; omega), List.getElem?_eq_none (by rw [wipe_length]; omega)]
  · rw [wipe_out hi, wipe_out hi, h i hi]
theorem wipeE_out : ∀ {vs : List Nat} {Γ : Env} {i : Nat}, i ∉ vs → (wipeE vs Γ).at i = Γ.at i
  | [], _, _, _ => rfl
  | v :: vs, Γ, i, h => by
    show (wipeE vs (Γ.set v none)).at i = Γ.at i
    rw [wipeE_out fun z => h (List.mem_cons_of_mem _ z), at_set_ne (fun z => h (by rw [z]; exact List.mem_cons_self))]
theorem wipeE_len : ∀ {vs : List Nat} {Γ : Env}, (wipeE vs Γ).length = Γ.length
  | [], _ => rfl
  | v :: vs, Γ => by
    show (wipeE vs (Γ.set v none)).length = Γ.length
    rw [wipeE_len, List.length_set]
theorem at_none_set {Γ : Env} {v i : Nat} (h : Γ.at i = none) : Env.at (Γ.set v none) i = none := by
  by_cases q : v = i
  · subst q
    by_cases l : v < Γ.length
    · exact at_set_same l
    · unfold Env.at; rw [List.getElem?_eq_none (by rw [List.length_set]; omega)]; rfl
  · rw [at_set_ne q]; exact h
theorem wipeE_none : ∀ {vs : List Nat} {Γ : Env} {i : Nat}, Γ.at i = none → (wipeE vs Γ).at i = none
  | [], _, _, h => h
  | v :: vs, Γ, i, h => wipeE_none (vs := vs) (at_none_set h)
theorem wipeE_in : ∀ {vs : List Nat} {Γ : Env} {i : Nat}, i ∈ vs → (wipeE vs Γ).at i = none
  | [], _, _, h => by cases h
  | v :: vs, Γ, i, h => by
    show (wipeE vs (Γ.set v none)).at i = none
    by_cases q : v = i
    · subst q
      refine wipeE_none ?_
      by_cases l : v < Γ.length
      · exact at_set_same l
      · unfold Env.at; rw [List.getElem?_eq_none (by rw [List.length_set]; omega)]; rfl
    · exact wipeE_in ((List.mem_cons.mp h).resolve_left (Ne.symm q))
theorem backE_len {Γ0 : Env} : ∀ {vs : List Nat} {Γ : Env}, (backE vs Γ0 Γ).length = Γ.length
  | [], _ => rfl
  | v :: vs, Γ => by
    show (backE vs Γ0 (Γ.set v (Γ0.at v))).length = Γ.length
    rw [backE_len, List.length_set]
theorem backE_out {Γ0 : Env} : ∀ {vs : List Nat} {Γ : Env} {i : Nat}, i ∉ vs → (backE vs Γ0 Γ).at i = Γ.at i
  | [], _, _, _ => rfl
  | v :: vs, Γ, i, h => by
    show (backE vs Γ0 (Γ.set v (Γ0.at v))).at i = Γ.at i
    rw [backE_out fun z => h (List.mem_cons_of_mem _ z), at_set_ne (fun z => h (by rw [z]; exact List.mem_cons_self))]
theorem backE_keep {Γ0 : Env} : ∀ {vs : List Nat} {Γ : Env} {i : Nat}, Γ.length = Γ0.length → Γ.at i = Γ0.at i → (backE vs Γ0 Γ).at i = Γ0.at i
  | [], _, _, _, h => h
  | v :: vs, Γ, i, l, h => by
    show (backE vs Γ0 (Γ.set v (Γ0.at v))).at i = Γ0.at i
    refine backE_keep (by rw [List.length_set]; exact l) ?_
    by_cases q : v = i
    · subst q
      by_cases lt : v < Γ.length
      · exact at_set_same lt
      · unfold Env.at
        rw [List.getElem?_eq_none (by rw [List.length_set]; omega), List.getElem?_eq_none (by omega)]
    · rw [at_set_ne q]; exact h
theorem backE_in {Γ0 : Env} : ∀ {vs : List Nat} {Γ : Env} {i : Nat}, Γ.length = Γ0.length → i ∈ vs → (backE vs Γ0 Γ).at i = Γ0.at i
  | [], _, _, _, h => by cases h
  | v :: vs, Γ, i, l, h => by
    show (backE vs Γ0 (Γ.set v (Γ0.at v))).at i = Γ0.at i
    by_cases q : v = i
    · subst q
      refine backE_keep (by rw [List.length_set]; exact l) ?_
      by_cases lt : v < Γ.length
      · exact at_set_same lt
      · unfold Env.at
        rw [List.getElem?_eq_none (by rw [List.length_set]; omega), List.getElem?_eq_none (by omega)]
    · exact backE_in (by rw [List.length_set]; exact l) ((List.mem_cons.mp h).resolve_left (Ne.symm q))
/-- the block's names forgotten -/
theorem OkS.wipe {Γ : Env} {σ : St} {M H : Hp} (vs : List Nat) (o : OkS cl Γ σ M H) : OkS cl (wipeE vs Γ) (L2.wipe σ vs) M H ∧ ∀ a, isOwn (wipeE vs Γ) (L2.wipe σ vs) a → isOwn Γ σ a := by
  have go : ∀ i x, (wipeE vs Γ).at i = some x → i ∉ vs ∧ Γ.at i = some x := fun i x e => by
    by_cases q : i ∈ vs
    · rw [wipeE_in q] at e; cases e
    · rw [wipeE_out q] at e; exact ⟨q, e⟩
  have ow : ∀ a, isOwn (wipeE vs Γ) (L2.wipe σ vs) a → isOwn Γ σ a := fun a ⟨i, d, h1, h2⟩ => by
    obtain ⟨q1, e1⟩ := go i _ h1
    rw [wipe_out q1] at h2
    exact ⟨i, d, e1, h2⟩
  refine ⟨⟨⟨by rw [wipeE_len, wipe_length]; exact o.len, o.sub, fun i d b e => ?_, fun i j d1 d2 a h1 h2 h3 h4 => ?_⟩, o.fresh, fun a h => o.ownN a (ow a h)⟩, ow⟩
  · obtain ⟨q, e⟩ := go i _ e
    rw [wipe_out q]
    exact o.slot i d b e
  · obtain ⟨q1, e1⟩ := go i _ h1
    obtain ⟨q2, e2⟩ := go j _ h2
    rw [wipe_out q1] at h3
    rw [wipe_out q2] at h4
    exact o.sep i j d1 d2 a e1 e2 h3 h4
end Dv
namespace Dv
open PySem PySem.Spec L2
variable {cl : Ct} {lk : List Nat}
/-! ### objects -/
theorem r1_obj {M H : Hp} {c : Nat} {ns : List Str} {xs : List D} {v : V} (r : Rep1 cl M H (.obj c ns xs) v) : ∃ a dx fs, v = .ref a ∧ H a = some (.ins (cl.c c) dx fs) ∧ fs.map (·.1) = ns ∧ Reps cl M xs (fs.map (·.2)) := by
  rcases r with h | ⟨a, o, rfl, m, t⟩ | ⟨ns, a, e, _⟩ | ⟨_, _, _, _, _, e, _⟩
  · cases h
  · obtain ⟨dx, fs, rfl, k, r⟩ := t
    exact ⟨a, dx, fs, rfl, m, k, r⟩
  · cases e
  · cases e
theorem valN_ok {M : Hp} {f : Str} {z : D} : ∀ {fs : List (Str × V)} {xs : List D}, Reps cl M xs (fs.map (·.2)) → valN (fs.map (·.1)) xs f = some z → ∃ v, fs.lookup f = some v ∧ Rep cl M z v
  | [], [], _, h => by cases h
  | [], _ :: _, ⟨_, _, e, _⟩, _ => by cases e
  | (g, x) :: fs, [], r, h => by cases h
  | (g, x) :: fs, d :: xs, ⟨v, us, e, a, b⟩, h => by
    cases e
    have h' : (if g = f then some d else valN (fs.map (·.1)) xs f) = some z := h
    rw [List.lookup_cons]
    by_cases c : g = f
    · rw [if_pos c] at h'
      cases h'
      subst c
      refine ⟨x, ?_, a⟩
      simp
    · rw [if_neg c] at h'
      have : (f == g) = false := by simpa using fun z => c z.symm
      rw [this]
      exact valN_ok b h'
theorem no_lookup {m : Str} : ∀ {fs : List (Str × V)}, m ∉ fs.map (·.1) → fs.lookup m = none
  | [], _ => rfl
  | (g, x) :: fs, h => by
    have h' : ¬ m = g ∧ m ∉ fs.map (·.1) := by simpa using h
    rw [List.lookup_cons, show (m == g) = false by simpa using h'.1]
    exact no_lookup h'.2
theorem putN_ok {M : Hp} {f : Str} {z : D} {v : V} (rz : Rep cl M z v) : ∀ {fs : List (Str × V)} {xs : List D}, Reps cl M xs (fs.map (·.2)) → (putF f v fs).map (·.1) = (putN (fs.map (·.1)) xs f z).1 ∧ Reps cl M (putN (fs.map (·.1)) xs f z).2 ((putF f v fs).map (·.2))
  | [], [], _ => ⟨rfl, Reps.cons rz Reps.nil⟩
  | [], _ :: _, ⟨_, _, e, _⟩ => by cases e
  | (g, x) :: fs, [], r => by cases r
  | (g, x) :: fs, d :: xs, ⟨w, us, e, a, b⟩ => by
    cases e
    obtain ⟨i1, i2⟩ := putN_ok (f := f) rz b
    show (if g = f then (g, v) :: fs else (g, x) :: putF f v fs).map (·.1) = (if g = f then (g :: fs.map (·.1), z :: xs) else (g :: (putN (fs.map (·.1)) xs f z).1, d :: (putN (fs.map (·.1)) xs f z).2)).1 ∧ Reps cl M (if g = f then (g :: fs.map (·.1), z :: xs) else (g :: (putN (fs.map (·.1)) xs f z).1, d :: (putN (fs.map (·.1)) xs f z).2)).2 ((if g = f then (g, v) :: fs else (g, x) :: putF f v fs).map (·.2))
    by_cases c : g = f
    · rw [if_pos c, if_pos c]
      exact ⟨rfl, Reps.cons rz b⟩
    · rw [if_neg c, if_neg c]
      exact ⟨by rw [List.map_cons, i1], Reps.cons a i2⟩
theorem lookup_mem {c f : Nat} : ∀ {tbl : List (Nat × Nat)}, tbl.lookup c = some f → (c, f) ∈ tbl
  | [], h => by cases h
  | (c', f') :: tbl, h => by
    rw [List.lookup_cons] at h
    by_cases k : c = c'
    · subst k
      simp at h
      subst h
      exact List.mem_cons_self
    · rw [show (c == c') = false by simpa using k] at h
      exact List.mem_cons_of_mem _ (lookup_mem h)
theorem snd_fld {cs : List Nat} {f : Str} {cc : Nat → Addr} (hcc : cc = cl.c) {ta : TE} {x : Env → Option (R × Env)} (ha : SndE cl lk ta x) : SndE cl lk (tFldC cc cs ta f) (fun Γ => (x Γ).bind fun p => (getR p.2 p.1).bind fun d => (fldD cs f d).map fun z => (.sh z, p.2)) := by
  subst hcc
  intro Γ r Γ' e σ M H ok Q q
  obtain ⟨⟨r1, Γ1⟩, e1, e⟩ := bind_some' e
  obtain ⟨d, e2, e⟩ := bind_some' e
  obtain ⟨z, e3, e⟩ := map_some' e
  cases e
  refine ha Γ r1 Γ1 e1 σ M H ok _ fun u M1 H1 s1 n1 v1 => ?_
  cases d <;> try (cases e3; done)
  rename_i c ns xs
  obtain ⟨a, dx, fs, rfl, m, rfl, rf⟩ := r1_obj (v1.get s1.ok e2)
  obtain ⟨hc, e3⟩ := ite_some (show (if c ∈ cs then valN (fs.map (·.1)) xs f else none) = some z from e3)
  obtain ⟨v, l, rv⟩ := valN_ok rf e3
  exact ⟨a, c, dx, fs, v, rfl, m, hc, l, q v M1 H1 s1 n1 rv⟩
theorem snd_meth {g : Cfg} {m : Str} {tbl : List (Nat × Nat)} {Φ : Pm} (hcc : Φ.cc = cl.c) (hsp : ∀ f, SpLe (spOf cl.toCt0 (g.sg f) (g.φ f)) (Φ.sp f)) {to : TE} {ta : TA} {x : Env → Option (R × Env)} {y : Env → Option (List R × Env)} (ho : SndE cl g.lk to x) (ha : SndA cl g.lk ta y) :
    SndE cl g.lk (tMethD Φ m tbl to ta) (fun Γ => (x Γ).bind fun p => (getR p.2 p.1).bind fun d => (methD m tbl d).bind fun f => (y p.2).bind fun q => callD g f (p.1 :: q.1) q.2) := by
  intro Γ r Γ' e σ M H ok Q q
  obtain ⟨⟨r1, Γ1⟩, e1, e⟩ := bind_some' e
  obtain ⟨d, e2, e⟩ := bind_some' e
  obtain ⟨f, e3, e5⟩ := bind_some' e
  clear e
  obtain ⟨⟨rs, Γ2⟩, e4, e5⟩ := bind_some' e5
  refine ho Γ r1 Γ1 e1 σ M H ok _ fun u M1 H1 s1 n1 v1 => ?_
  cases d <;> try (cases e3; done)
  rename_i c ns xs
  obtain ⟨a, dx, fs, rfl, mm, rfl, rf⟩ := r1_obj (v1.get s1.ok e2)
  have e3' : (if m ∈ fs.map (·.1) then none else tbl.lookup c) = some f := e3
  have nm : m ∉ fs.map (·.1) := fun z => by rw [if_pos z] at e3'; cases e3'
  rw [if_neg nm] at e3'
  have mem : (c, f) ∈ tbl := lookup_mem e3'
  refine ⟨a, c, dx, fs, f, rfl, by rw [hcc]; exact mm, mem, no_lookup nm, ?_⟩
  refine ha Γ1 rs Γ2 e4 σ M1 H1 s1.ok _ fun vs M2 H2 s2 n2 r2 => ?_
  exact call_core (rs := r1 :: rs) (hsp f) ok (s1.trans s2 s1.own) (n1.trans n2) ⟨.ref a, vs, rfl, v1.step s2 n2 fun a h => .inl h, r2.imp fun a h => ⟨none_of_live s1.fr h, fun z => v1.alive z h⟩⟩ e5 q
theorem snd_new {g : Cfg} {c f : Nat} {sp : Sp} {E : XK} {C : Addr} (hC : C = cl.c c) {ta : TA} {x : Env → Option (List R × Env)} (hsp : SpLe (spOf cl.toCt0 (g.sg f) (g.φ f)) sp) (ha : SndA cl g.lk ta x) :
    SndE cl g.lk (tMake C sp [] E ta) (fun Γ => (x Γ).bind fun p => newD g c f p.1 p.2) := by
  subst hC
  intro Γ r Γ' e σ M H ok Q q
  obtain ⟨⟨rs, Γ1⟩, e1, e⟩ := bind_some' e
  unfold newD at e
  obtain ⟨⟨c1, c2, c3⟩, e⟩ := ite_some e
  obtain ⟨⟨ds, Γ2⟩, e2, e⟩ := bind_some' e
  refine ha Γ rs Γ1 e1 σ M H ok _ fun vs M1 H1 s1 n1 v1 => ?_
  obtain ⟨M2, s2, n2, r2, _⟩ := keep_post ok s1 n1 v1 e2
  have io : (g.sg f).io = true :: (g.sg f).io.tail := by
    cases h : (g.sg f).io with
    | nil => rw [h] at c1; cases c1
    | cons b l => rw [h] at c1; cases c1; rfl
  intro y dx hy hdx ne
  show sp (V.ref y :: (vs ++ [])) _ _ E
  rw [List.append_nil]
  cases e3 : g.φ f (.obj c [] [] :: ds) with
  | none => simp only [e3] at e; cases e
  | some p =>
    obtain ⟨d, b, l⟩ := p
    simp only [e3] at e
    match d, b, l, e, e3 with
    | .non, false, [z], e, e3 =>
      cases e
      refine hsp _ _ _ _ ?_
      have ny : ∀ {b o}, H1 b = some o → b ≠ y := fun h z => by rw [z, hy] at h; cases h
      have nd : ∀ {b o}, H1 b = some o → b ≠ dx := fun h z => by rw [z, hdx] at h; cases h
      have up : ∀ b o, H1 b = some o → (upd (upd H1 dx (.own y)) y (.ins (cl.c c) dx [])) b = some o := fun b o h => by rw [upd_ne (ny h), upd_ne (nd h)]; exact h
      have dn : ∀ b, (upd (upd H1 dx (.own y)) y (.ins (cl.c c) dx [])) b = none → H1 b = none := fun b h => by
        cases k : H1 b with
        | none => rfl
        | some o => rw [up b o k] at h; cases h
      have len : ds.length = (g.sg f).io.tail.length := by rw [r2.length, ← c3]; exact rvs_len v1
      refine ⟨cl, M2, .obj c [] [] :: ds, rfl, fun a h => s2.ok.fresh a (dn a h), s2.ok.sub.trans up, ?_, ?_, .non, false, [z], e3, fun v M' H' fr sm ios ro => ?_⟩
      · rw [io]
        exact ⟨⟨y, _, rfl, s2.ok.sub.free hy, upd_same, ⟨dx, [], rfl, rfl, rfl⟩, s2.ok.fresh y hy⟩, ArgsOk.of_reps c2 len r2⟩
      · rw [io]
        show (V.ref y :: ioVals _ vs).Nodup
        rw [ioVals_none c2]
        exact List.nodup_cons.mpr ⟨List.not_mem_nil, List.nodup_nil⟩
      · refine ⟨ro, ?_⟩
        rw [io] at ios
        obtain ⟨⟨a, o, ea, m', h', t'⟩, _⟩ := (show (∃ a o, V.ref y = V.ref a ∧ M' a = none ∧ H' a = some o ∧ Top cl M' z o) ∧ _ from ios)
        cases ea
        have only : ∀ a, inA (g.sg f).io (V.ref y :: vs) a → a = y := fun a h => by
          unfold inA at h
          rw [io] at h
          rcases List.mem_cons.mp (show V.ref a ∈ V.ref y :: ioVals (g.sg f).io.tail vs from h) with h | h
          · cases h; rfl
          · rw [ioVals_none c2] at h; cases h
        have keep : ∀ a o, H1 a = some o → H' a = some o := fun a o h => fr.keep a o (up a o h) fun z => ny h (only a z)
        have ex : Ext M2 H1 M' H' := ⟨⟨fun a o h _ => keep a o h, fun a h => fr.live a fun z => h (dn a z), fr.subM, fun a h h' => by
          rcases fr.new a h h' with k | k
          · exact .inl (dn a k)
          · rw [only a k]; exact .inl hy⟩, sm⟩
        have s3 := s2.trans (Stp.ext s2.ok ex fun a h => h) s2.own
        exact q (.ref y) M' H' s3 n2 ⟨y, o, rfl, m', h', t', none_of_live s1.fr hy, fun w => (s2.ok.own_at w).2 hy⟩
theorem walks_rev {M : Hp} {a : Addr} {vs : List V} {ds : List D} (m : SqL cl.K M a vs) (r : Reps cl M ds vs) : Walks cl M (Itv cl.K a vs.length) ds.reverse := by
  have up : ∀ {M1 H : Hp}, Same M M1 → Same M1 H → SqL cl.K H a vs := fun s1 s2 => s2.seq (s1.seq m)
  have len := r.length
  refine ⟨fun i d M1 H s1 s2 e => ?_, fun H s => ?_⟩
  · have hi : i < vs.length := by
      have := (List.getElem?_eq_some_iff.mp e).1
      rw [List.length_reverse] at this
      omega
    rw [List.getElem?_reverse (by omega)] at e
    obtain ⟨v, e1, r1⟩ := r.get e
    refine ⟨⟨hi, vs, v, up s1 s2, by rw [← len]; exact e1⟩, fun x H' ⟨eh, hy⟩ => ?_⟩
    subst eh
    have e2 := hy vs (up s1 s2)
    rw [← len, e1] at e2
    cases e2
    exact ⟨M1, ext_refl s2, r1.mono s1⟩
  · show vs.length ≤ ds.reverse.length
    rw [List.length_reverse]
    omega
theorem snd_itRev {ta : TA} {x : Env → Option (List R × Env)} (h : SndA cl lk ta x) : SndI cl lk (iRev cl.K ta) (fun Γ => (x Γ).bind fun p => (keepRs lk p.1 p.2).bind fun q => match q.1.map D.un with
      | [.lst ds] => some (ds.reverse, q.2)
      | _ => none) := by
  intro Γ ds Γ' e σ M H ok Q q
  obtain ⟨⟨r, Γ1⟩, e1, e⟩ := bind_some' e
  obtain ⟨⟨xs, Γ2⟩, e2, e⟩ := bind_some' e
  refine h Γ r Γ1 e1 σ M H ok _ fun v M1 H1 s1 n1 v1 => ?_
  obtain ⟨M2, s2, n2, r2, _⟩ := keep_post ok s1 n1 v1 e2
  have r2 := r2.un
  simp only at e
  generalize xs.map D.un = xs at e r2
  cases xs with
  | nil => cases e
  | cons x xs =>
    cases xs with
    | cons _ _ => cases x <;> cases e
    | nil =>
      cases x <;> try (cases e; done)
      cases e
      obtain ⟨_, _, rfl, ⟨a, vs, rfl, m, r3⟩, rfl⟩ := r2
      exact ⟨a, vs, rfl, SqL.of (s2.ok.sub _ _ m), q _ M2 H1 s2 n2 (walks_rev (SqL.of m) r3)⟩
/-! ### an own object's attributes stored -/
theorem setFD_ok {M : Hp} {cs : List Nat} {f : Str} {y d d' : D} {v : V} {o : HO} (t : Top cl M d o) (ry : Rep cl M y v) (h : setFD cs f y d = some d') : ∃ c dx fs, o = .ins (cl.c c) dx fs ∧ c ∈ cs ∧ fs.length < 1000 ∧ Top cl M d' (.ins (cl.c c) dx (putF f v fs)) := by
  cases d <;> try (cases h; done)
  rename_i c ns xs
  obtain ⟨⟨h1, h2⟩, h⟩ := ite_some (show (if c ∈ cs ∧ ns.length < 1000 then some (D.obj c (putN ns xs f y).1 (putN ns xs f y).2) else none) = some d' from h)
  cases h
  obtain ⟨dx, fs, rfl, rfl, r⟩ := t
  obtain ⟨p1, p2⟩ := putN_ok (f := f) ry r
  exact ⟨c, dx, fs, rfl, h1, by simpa using h2, dx, _, rfl, p1, p2⟩
/-! ### texts -/
theorem snd_rep {y z : Str} {ta : TE} {x : Env → Option (R × Env)} (ha : SndE cl lk ta x) : SndE cl lk (CwR.tReplC ta y z) (fun Γ => (x Γ).bind fun p => (getR p.2 p.1).bind fun d => (repD y z d).map fun v => (.sh v, p.2)) := by
  intro Γ r Γ' e σ M H ok Q q
  obtain ⟨⟨r1, Γ1⟩, e1, e⟩ := bind_some' e
  obtain ⟨d, e2, e⟩ := bind_some' e
  obtain ⟨v, e3, e⟩ := map_some' e
  cases e
  refine ha Γ r1 _ e1 σ M H ok _ fun u M1 H1 s1 n1 v1 => ?_
  cases d <;> try (cases e3; done)
  obtain ⟨c, e3⟩ := ite_some e3
  cases e3
  exact ⟨_, r1_str (v1.get s1.ok e2), c, q _ M1 H1 s1 n1 rfl⟩
theorem snd_revL {ta : TE} {x : Env → Option (R × Env)} (ha : SndE cl lk ta x) : SndE cl lk (tRevL cl.K ta) (fun Γ => (x Γ).bind fun p => (getR p.2 p.1).bind fun d => (revD d).map fun v => (.ow v, p.2)) := by
  intro Γ r Γ' e σ M H ok Q q
  obtain ⟨⟨r1, Γ1⟩, e1, e⟩ := bind_some' e
  obtain ⟨d, e2, e⟩ := bind_some' e
  obtain ⟨v, e3, e⟩ := map_some' e
  cases e
  refine ha Γ r1 _ e1 σ M H ok _ fun u M1 H1 s1 n1 v1 => ?_
  cases d <;> try (cases e3; done)
  cases e3
  obtain ⟨a, vs, rfl, m, r2⟩ := r1_lst (v1.get s1.ok e2)
  refine ⟨a, vs, rfl, SqL.of m, fun p hp => ?_⟩
  obtain ⟨s2, r3⟩ := s1.new (d := .lst _) (o := .lst vs.reverse) hp ⟨_, rfl, r2.reverse⟩
  exact q _ _ _ s2 n1 r3
theorem strs_reps {M : Hp} : ∀ {ds : List D} {xs : List Str} {vs : List V}, strsD ds = some xs → Reps cl M ds vs → vs = xs.map V.str
  | [], _, _, e, r => by cases e; exact r
  | d :: ds, _, _, e, ⟨v, us, ev, a, b⟩ => by
    cases d <;> try (cases e; done)
    obtain ⟨ys, e1, e2⟩ := map_some' e
    subst e2 ev
    rw [strs_reps e1 b]
    cases (show v = _ from a)
    rfl
theorem snd_minD {ta : TE} {x : Env → Option (R × Env)} (ha : SndE cl lk ta x) : SndE cl lk (tMinD cl.K ta) (fun Γ => (x Γ).bind fun p => (getR p.2 p.1).bind fun d => (minDD d).map fun z => (.sh z, p.2)) := by
  intro Γ r Γ' e σ M H ok Q q
  obtain ⟨⟨r1, Γ1⟩, e1, e⟩ := bind_some' e
  obtain ⟨d, e2, e⟩ := bind_some' e
  obtain ⟨v, e3, e⟩ := map_some' e
  cases e
  show ta σ H fun x H1 => rMinD cl.K [x] [.non] H1 Q
  refine ha Γ r1 _ e1 σ M H ok _ fun u M1 H1 s1 n1 v1 => ?_
  cases d <;> try (cases e3; done)
  obtain ⟨ns, e4, e3⟩ := map_some' e3
  obtain ⟨a, vs, rfl, m, r2⟩ := r1_lst (v1.get s1.ok e2)
  refine ⟨a, ns, rfl, rfl, SqL.of (by rw [← ints_of r2 e4]; exact m), ?_⟩
  cases hm : minI ns with
  | none =>
    rw [hm] at e3
    cases e3
    exact q _ _ _ s1 n1 rfl
  | some k =>
    rw [hm] at e3
    cases e3
    exact q _ _ _ s1 n1 rfl
theorem snd_lenSet {ta : TE} {x : Env → Option (R × Env)} (ha : SndE cl lk ta x) : SndE cl lk (tLenSetT cl.K ta) (fun Γ => (x Γ).bind fun p => (getR p.2 p.1).bind fun d => (lenSetD d).map fun z => (.sh z, p.2)) := by
  intro Γ r Γ' e σ M H ok Q q
  obtain ⟨⟨r1, Γ1⟩, e1, e⟩ := bind_some' e
  obtain ⟨d, e2, e⟩ := bind_some' e
  obtain ⟨v, e3, e⟩ := map_some' e
  cases e
  refine ha Γ r1 _ e1 σ M H ok _ fun u M1 H1 s1 n1 v1 => ?_
  cases d <;> try (cases e3; done)
  obtain ⟨xs, e4, e3⟩ := bind_some' e3
  obtain ⟨c, e3⟩ := ite_some e3
  cases e3
  obtain ⟨a, vs, rfl, m, r2⟩ := r1_lst (v1.get s1.ok e2)
  refine ⟨a, xs, rfl, SqL.of (by rw [← strs_reps e4 r2]; exact m), c, q _ _ _ s1 n1 rfl⟩
theorem merge_new : ∀ {more acc : List (Key × V)}, (more.map (·.1)).Nodup → (∀ p ∈ more, ∀ q ∈ acc, q.1 ≠ p.1) → mergeK acc more = acc ++ more
  | [], acc, _, _ => by simp [mergeK]
  | p :: more, acc, hn, hd => by
    rw [List.map_cons, List.nodup_cons] at hn
    have e : putK acc p.1 p.2 = acc ++ [p] := by
      unfold putK
      rw [if_neg]
      intro z
      obtain ⟨q, h1, h2⟩ := List.any_eq_true.mp z
      exact hd p List.mem_cons_self q h1 (of_decide_eq_true h2)
    show mergeK (putK acc p.1 p.2) more = _
    rw [e, merge_new hn.2 fun q hq r hr => ?_]
    · simp
    · rcases List.mem_append.mp hr with h | h
      · exact hd q (List.mem_cons_of_mem _ hq) r h
      · rw [List.mem_singleton.mp h]
        exact fun z => hn.1 (List.mem_map.mpr ⟨q, hq, z.symm⟩)
theorem pairs_str : ∀ {ks : List (Str × Str)} {σ : L2.St} {H : Hp} {Q : List (V × V) → Hp → Prop}, Q (ks.map fun q => (V.str q.1, V.str q.2)) H → tPairs (ks.map fun q => (tC (.str q.1), tC (.str q.2))) σ H Q
  | [], _, _, _, q => q
  | _ :: ks, _, _, _, q => pairs_str (ks := ks) q
theorem reps_vals {M : Hp} : ∀ {ks : List (Str × Str)}, Reps cl M (ks.map fun q => D.str q.2) ((ks.map fun q => ((.inr q.1 : Key), V.str q.2)).map (·.2))
  | [] => Reps.nil
  | _ :: ks => Reps.cons rfl (reps_vals (ks := ks))
theorem snd_dsp {ks : List (Str × Str)} : SndE cl lk (tDisp (ks.map fun q => (tC (.str q.1), tC (.str q.2)))) (fun Γ => if dspOk ks then some (.ow (.dct (ks.map fun q => .inr q.1) (ks.map fun q => .str q.2)), Γ) else none) := by
  intro Γ r Γ' e σ M H ok Q q
  obtain ⟨c, e⟩ := ite_some e
  cases e
  unfold dspOk at c
  rw [Bool.and_eq_true, decide_eq_true_eq, decide_eq_true_eq] at c
  intro p hp
  refine pairs_str ⟨upd_same, ks.map fun q => (.inr q.1, V.str q.2), by rw [List.map_map]; rfl, by rw [List.length_map]; exact c.2, ?_⟩
  have nd : ((ks.map fun q => ((.inr q.1 : Key), V.str q.2)).map (·.1)).Nodup := by
    rw [List.map_map]
    have h := c.1
    rw [List.Nodup, List.pairwise_map] at h ⊢
    exact h.imp fun n z => n (Sum.inr.inj z)
  rw [upd_upd, merge_new nd (fun _ _ _ h => by cases h), List.nil_append]
  obtain ⟨s3, r3⟩ := (Stp.rfl' (lk := lk) ok).new (d := .dct (ks.map fun q => .inr q.1) (ks.map fun q => .str q.2)) (o := .dK (ks.map fun q => (.inr q.1, V.str q.2))) hp ⟨_, rfl, by rw [List.map_map]; rfl, reps_vals⟩
  exact q _ _ _ s3 Names'.refl r3
theorem snd_partn {ta tb : TE} {x y : Env → Option (R × Env)} (ha : SndE cl lk ta x) (hb : SndE cl lk tb y) : SndE cl lk (tPartn ta tb) (fun Γ => (x Γ).bind fun p => (getR p.2 p.1).bind fun d0 => if isStr d0 then (y p.2).bind fun q => (getR q.2 p.1).bind fun d => (getR q.2 q.1).bind fun d' => (partD d d').map fun v => (.sh (.nw (.tup v)), q.2) else none) := by
  intro Γ r Γ' e σ M H ok Q q
  obtain ⟨⟨r1, Γ1⟩, e1, e⟩ := bind_some' e
  obtain ⟨d0, e0, e⟩ := bind_some' e
  obtain ⟨c, e⟩ := ite_some e
  obtain ⟨⟨r2, Γ2⟩, e2, e⟩ := bind_some' e
  obtain ⟨d, e3, e⟩ := bind_some' e
  obtain ⟨d', e4, e⟩ := bind_some' e
  obtain ⟨v, e5, e⟩ := map_some' e
  cases e
  refine ha Γ r1 Γ1 e1 σ M H ok _ fun u M1 H1 s1 n1 v1 => ⟨?_, ?_⟩
  · cases d0 <;> try (cases c; done)
    exact ⟨_, r1_str (v1.get s1.ok e0)⟩
  refine hb Γ1 r2 _ e2 σ M1 H1 s1.ok _ fun w M2 H2 s2 n2 v2 => ?_
  have w1 := (v1.step s2 n2 fun a h => .inl h).get s2.ok e3
  have w2 := v2.get s2.ok e4
  cases d <;> try (cases e5; done)
  cases d' <;> try (cases e5; done)
  obtain ⟨c5, e5⟩ := ite_some e5
  cases e5
  refine ⟨_, _, r1_str w1, by rw [r1_str w2], c5.1, c5.2, fun p hp => ?_⟩
  have s3 := s1.trans s2 s1.own
  obtain ⟨s4, r4⟩ := s3.newSh (d := .tup [.str _, .str _, .str _]) hp ⟨_, rfl, Reps.cons rfl (Reps.cons rfl (Reps.cons rfl Reps.nil))⟩
  exact q _ _ _ s4 (n1.trans n2) ⟨r4, p, rfl, s3.ok.fresh p hp⟩
theorem walks_str {M : Hp} {s : Str} : Walks cl M (Its s) (signsD s) := by
  refine ⟨fun i d M1 H s1 s2 e => ?_, fun H _ => by show s.cps.size ≤ (signsD s).length; unfold signsD; rw [List.length_map, Array.length_toList]; exact Nat.le_refl _⟩
  unfold signsD at e
  rw [List.getElem?_map] at e
  obtain ⟨c, hc, e⟩ := map_some' e
  subst e
  have hc' : s.cps[i]? = some c := by rw [← Array.getElem?_toList]; exact hc
  refine ⟨(Array.getElem?_eq_some_iff.mp hc').1, fun x H' ⟨eh, c', h1, hy⟩ => ?_⟩
  subst eh hy
  rw [hc'] at h1
  cases h1
  exact ⟨M1, ext_refl s2, rfl⟩
theorem snd_itS {te : TE} {x : Env → Option (R × Env)} (h : SndE cl lk te x) : SndI cl lk (iStr te) (fun Γ => (x Γ).bind fun p => (getR p.2 p.1).bind fun d => match d with
      | .str s => some (signsD s, p.2)
      | _ => none) := by
  intro Γ ds Γ' e σ M H ok Q q
  obtain ⟨⟨r, Γ1⟩, e1, e⟩ := bind_some' e
  obtain ⟨d, e2, e⟩ := bind_some' e
  refine h Γ r Γ1 e1 σ M H ok _ fun v M1 H1 s1 n1 v1 => ?_
  cases d <;> try (cases e; done)
  cases e
  exact ⟨_, r1_str (v1.get s1.ok e2), q _ M1 H1 s1 n1 walks_str⟩
end Dv
namespace Dv
open PySem PySem.Spec L2
variable {cl : Ct} {lk : List Nat}
/-! ### a dict that is walked is locked meanwhile -/
def Dk (kvs : List (Key × V)) (u : HO) : Prop := u = .dK kvs ∨ ∃ o, u = .frz o (.dK kvs)
theorem Dk.of {kvs : List (Key × V)} {M : Hp} {d : Addr} (h : Rd M d (.dK kvs)) : ∃ u, M d = some u ∧ Dk kvs u := by
  rcases h with h | ⟨o, h⟩
  · exact ⟨_, h, .inl rfl⟩
  · exact ⟨_, h, .inr ⟨o, rfl⟩⟩
theorem Dk.not {kvs : List (Key × V)} {u : HO} (k : Dk kvs u) : (∀ vs, u ≠ .lst vs) ∧ (∀ vs, u ≠ .tup vs) ∧ (∀ c dx fs, u ≠ .ins c dx fs) ∧ (∀ o vs, u ≠ .frz o (.lst vs)) := by
  rcases k with rfl | ⟨o, rfl⟩
  · exact ⟨fun _ z => (nomatch z), fun _ z => (nomatch z), fun _ _ _ z => (nomatch z), fun _ _ z => (nomatch z)⟩
  · exact ⟨fun _ z => (nomatch z), fun _ z => (nomatch z), fun _ _ _ z => (nomatch z), fun _ _ z => (by cases z)⟩
theorem Dk.rd {kvs ks : List (Key × V)} {u u' : HO} {M : Hp} {d a : Addr} (h : M d = some u) (k : Dk kvs u) (k' : Dk kvs u') (m : Rd M a (.dK ks)) : Rd (upd M d u') a (.dK ks) := by
  by_cases e : a = d
  · subst e
    have : ks = kvs := by
      rcases m with m | ⟨o, m⟩
      · rw [h] at m
        rcases k with rfl | ⟨o', rfl⟩
        · cases m; rfl
        · cases m
      · rw [h] at m
        rcases k with rfl | ⟨o', rfl⟩
        · cases m
        · cases m; rfl
    subst this
    rcases k' with rfl | ⟨o', rfl⟩
    · exact .inl upd_same
    · exact .inr ⟨o', upd_same⟩
  · rcases m with m | ⟨o, m⟩
    · exact .inl (by rw [upd_ne e]; exact m)
    · exact .inr ⟨o, by rw [upd_ne e]; exact m⟩
section
variable {kvs : List (Key × V)} {u u' : HO} {d : Addr}
theorem swp_ne {M : Hp} {a : Addr} {o : HO} (h : M d = some u) (m : M a = some o) (n : u ≠ o) : upd M d u' a = some o := by
  rw [upd_ne fun z => n (by rw [z, h] at m; exact Option.some.inj m)]
  exact m
theorem swp_sq {K : PySem.W.Frag} {M : Hp} {a : Addr} {xs : List V} (h : M d = some u) (k : Dk kvs u) (m : SqL K M a xs) : SqL K (upd M d u') a xs := by
  rcases m with (m | ⟨o, m⟩) | m
  · exact .inl (.inl (swp_ne h m (k.not.1 _)))
  · exact .inl (.inr ⟨o, swp_ne h m (k.not.2.2.2 _ _)⟩)
  · exact .inr m
mutual
theorem Rep.swp {M : Hp} (h : M d = some u) (k : Dk kvs u) (k' : Dk kvs u') : ∀ {x : D} {v : V}, Rep cl M x v → Rep cl (upd M d u') x v
  | .non, v, r => r
  | .bl b, v, r => r
  | .int i, v, r => r
  | .str s, v, r => r
  | .lst ds, v, ⟨a, vs, e, m, r⟩ => ⟨a, vs, e, swp_ne h m (k.not.1 _), Reps.swp h k k' r⟩
  | .tup ds, v, ⟨a, vs, e, m, r⟩ => ⟨a, vs, e, swp_ne h m (k.not.2.1 _), Reps.swp h k k' r⟩
  | .dct ks ds, v, ⟨a, vs, e, m, q, r⟩ => ⟨a, vs, e, Dk.rd h k k' m, q, Reps.swp h k k' r⟩
  | .obj c ns ds, v, ⟨a, dx, fs, e, m, q, r⟩ => ⟨a, dx, fs, e, swp_ne h m (k.not.2.2.1 _ _ _), q, Reps.swp h k k' r⟩
  | .scr ns, v, ⟨a, e, m⟩ => ⟨a, e, swp_sq h k m⟩
  | .nw x, v, ⟨r, n⟩ => ⟨Rep.swp h k k' r, n⟩
theorem Reps.swp {M : Hp} (h : M d = some u) (k : Dk kvs u) (k' : Dk kvs u') : ∀ {ds : List D} {vs : List V}, Reps cl M ds vs → Reps cl (upd M d u') ds vs
  | [], _, r => r
  | _ :: _, _, ⟨v, r, e, a, b⟩ => ⟨v, r, e, Rep.swp h k k' a, Reps.swp h k k' b⟩
end
theorem Top.swp {M : Hp} (h : M d = some u) (k : Dk kvs u) (k' : Dk kvs u') {x : D} {o : HO} (t : Top cl M x o) : Top cl (upd M d u') x o := by
  cases x with
  | lst ds => obtain ⟨vs, e, r⟩ := t; exact ⟨vs, e, r.swp h k k'⟩
  | tup ds => obtain ⟨vs, e, r⟩ := t; exact ⟨vs, e, r.swp h k k'⟩
  | dct ks ds => obtain ⟨vs, e, q, r⟩ := t; exact ⟨vs, e, q, r.swp h k k'⟩
  | obj c ns ds => obtain ⟨dx, vs, e, q, r⟩ := t; exact ⟨dx, vs, e, q, r.swp h k k'⟩
  | _ => exact t.elim
theorem swp_same {M H : Hp} (s : Same M H) : Same (upd M d u') (upd H d u') := fun a o e => by
  by_cases c : a = d
  · subst c; rw [upd_same] at e ⊢; exact e
  · rw [upd_ne c] at e ⊢; exact s a o e
theorem OkS.swp {Γ : Env} {σ : St} {M H : Hp} (ok : OkS cl Γ σ M H) (h : M d = some u) (k : Dk kvs u) (k' : Dk kvs u') : OkS cl Γ σ (upd M d u') (upd H d u') := by
  have hH := ok.sub d u h
  refine ⟨⟨ok.len, swp_same ok.sub, fun i x b e => ?_, ok.sep⟩, fun a e => ?_, ok.ownN⟩
  · obtain ⟨v, e1, s⟩ := ok.slot i x b e
    refine ⟨v, e1, ?_⟩
    cases b with
    | false => exact Rep.swp h k k' (show Rep cl M x v from s)
    | true =>
      obtain ⟨a, o, rfl, m, hh, t⟩ := (show ∃ a o, v = V.ref a ∧ M a = none ∧ H a = some o ∧ Top cl M x o from s)
      have na : a ≠ d := fun z => by rw [z, h] at m; cases m
      exact ⟨a, o, rfl, by rw [upd_ne na]; exact m, by rw [upd_ne na]; exact hh, t.swp h k k'⟩
  · by_cases c : a = d
    · subst c; rw [upd_same] at e; cases e
    · rw [upd_ne c] at e; exact ok.fresh a e
/-- the lock is opened again -/
theorem Stp.unlock {O : Addr → Prop} {Γ Γ' : Env} {σ σ' : St} {M H M2 H2 : Hp} (h : M d = some u) (hH : H d = some u) (k : Dk kvs u) (k' : Dk kvs u') (nO : ¬ O d) (S : Stp cl lk O Γ σ (upd M d u') (upd H d u') Γ' σ' M2 H2) :
    H2 d = some u' ∧ M2 d = some u' ∧ Stp cl lk O Γ σ M H Γ' σ' (upd M2 d u) (upd H2 d u) := by
  have m2 : M2 d = some u' := S.fr.subM d u' upd_same
  have h2 : H2 d = some u' := S.fr.keep d u' upd_same nO
  refine ⟨h2, m2, S.ok.swp m2 k' k, ⟨fun a o e n => ?_, fun a e => ?_, fun a o e => ?_, fun a e e' => ?_⟩, fun a q => ?_, S.lks, S.lkg⟩
  · by_cases c : a = d
    · subst c; rw [upd_same]; rw [hH] at e; exact e
    · rw [upd_ne c]; exact S.fr.keep a o (by rw [upd_ne c]; exact e) n
  · by_cases c : a = d
    · subst c; rw [upd_same]; exact fun z => nomatch z
    · rw [upd_ne c]; exact S.fr.live a (by rw [upd_ne c]; exact e)
  · by_cases c : a = d
    · subst c; rw [upd_same]; rw [h] at e; exact e
    · rw [upd_ne c]; exact S.fr.subM a o (by rw [upd_ne c]; exact e)
  · by_cases c : a = d
    · subst c; rw [h] at e; cases e
    · have := S.fr.new a (by rw [upd_ne c]; exact e) (by rw [upd_ne c] at e'; exact e')
      rw [upd_ne c] at this
      exact this
  · have := S.own a q
    by_cases c : a = d
    · subst c
      rw [upd_same] at this
      exact this.imp id fun z => nomatch z
    · rw [upd_ne c] at this
      exact this
end
end Dv
namespace Dv
open PySem PySem.Spec L2
variable {cl : Ct} {lk : List Nat}
/-- what is neither shared nor a name's is changed -/
theorem OkS.other {Γ : Env} {σ : St} {M H : Hp} {p : Addr} {o : HO} (k : OkS cl Γ σ M H) (np : cl.N p) (m : M p = none) (n : ¬ isOwn Γ σ p) : Stp cl lk (fun a => isOwn Γ σ a ∨ a = p) Γ σ M H Γ σ M (upd H p o) := by
  refine Stp.mk' k (fun x z => z.elim (k.ownN x) fun w => by rw [w]; exact np) ⟨k.len, fun b u q => by rw [upd_ne (ne_of_none q m)]; exact k.sub b u q, fun i d b e => ?_, k.sep⟩ ⟨fun b u q h => by rw [upd_ne (fun z => h (.inr z))]; exact q, fun b q => ?_, Same.refl M, fun b q q' => absurd q q'⟩ (fun a h => .inl (.inl h)) (fun _ _ => rfl) (fun _ d _ h => ⟨d, h⟩)
  · obtain ⟨v, e1, s⟩ := k.slot i d b e
    refine ⟨v, e1, ?_⟩
    cases b with
    | false => exact s
    | true =>
      obtain ⟨a2, o2, rfl, m2, h2, t2⟩ := (show ∃ a o, v = V.ref a ∧ M a = none ∧ H a = some o ∧ Top cl M d o from s)
      exact ⟨a2, o2, rfl, m2, by rw [upd_ne (fun z => n (by rw [← z]; exact ⟨i, d, e, e1⟩))]; exact h2, t2⟩
  · by_cases z : b = p
    · subst z; rw [upd_same]; exact fun z => nomatch z
    · rw [upd_ne z]; exact q
theorem Stp.wiped {O : Addr → Prop} {Γ Γ' : Env} {σ σ' : St} {M H M' H' : Hp} {vs : List Nat} (s : Stp cl lk O Γ σ M H Γ' σ' M' H') (hv : ∀ i, i ∈ lk → i ∉ vs) : Stp cl lk O Γ σ M H (wipeE vs Γ') (L2.wipe σ' vs) M' H' := by
  obtain ⟨o, ow⟩ := s.ok.wipe vs
  exact ⟨o, s.fr, fun a h => s.own a (ow a h), fun i h => by rw [wipe_out (hv i h)]; exact s.lks i h, fun i d h e => by
    obtain ⟨d', e'⟩ := s.lkg i d h e
    exact ⟨d', by rw [wipeE_out (hv i h)]; exact e'⟩⟩
/-- what is untouched -/
theorem Stp.rest {O : Addr → Prop} {Γ Γ' : Env} {σ σ' : St} {M H M' H' : Hp} (s : Stp cl lk O Γ σ M H Γ' σ' M' H') {p : Addr} {o : HO} (h : H p = some o) (m : M p = none) (n : ¬ O p) : H' p = some o ∧ M' p = none ∧ ¬ isOwn Γ' σ' p := by
  refine ⟨s.fr.keep p o h n, ?_, fun z => ?_⟩
  · cases r : M' p with
    | none => rfl
    | some u =>
      rcases s.fr.new p m (by rw [r]; exact fun z => nomatch z) with k | k
      · rw [k] at h; cases h
      · exact (n k).elim
  · rcases s.own p z with k | k
    · exact n k
    · rw [k] at h; cases h
abbrev compTb (lk : List Nat) (tg vs : List Nat) (t : Env → Option (Bool × Env)) (ee : Env → Option (R × Env)) : D → Env → Option (Option D × Env) := fun x Γ1 => (bindT lk tg x Γ1).bind fun Γ2 => (t Γ2).bind fun b => if b.1 then
          (ee b.2).bind fun r => (keepR lk r.1 r.2).map fun z => (some z.1, wipeE vs z.2) else some (none, wipeE vs b.2)
/-- one turn of a comprehension -/
theorem comp_turn {tg vs : List Nat} {tt : TT} {te : TE} {t : Env → Option (Bool × Env)} {ee : Env → Option (R × Env)} (ht : SndT cl lk tt t) (he : SndE cl lk te ee) (hv : ∀ i, i ∈ lk → i ∉ vs) (htg : ∀ i, i ∈ tg → i ∈ vs)
    {σ : St} {Γ Γ' : Env} {M H : Hp} {d : D} {y : Option D} {x : V} {p : Addr} {acc : List V} (o : OkS cl Γ (L2.wipe σ vs) M H) (hn : ∀ i, i ∈ vs → Γ.at i = none) (e : compTb lk tg vs t ee d Γ = some (y, Γ')) (r : Rep cl M d x)
    (hnp : cl.N p) (hp : H p = some (.lst acc)) (mp : M p = none) (np : ¬ isOwn Γ (L2.wipe σ vs) p) (ha : acc.length < sizeLine ∨ y = none) (Nx : Hp → Prop)
    (q : ∀ M' H', Stp cl lk (fun a => isOwn Γ (L2.wipe σ vs) a ∨ a = p) Γ (L2.wipe σ vs) M H Γ' (L2.wipe σ vs) M' H' → (∀ i, i ∈ vs → Γ'.at i = none) → Names' Γ Γ' → M' p = none → ¬ isOwn Γ' (L2.wipe σ vs) p → (∃ us, H' p = some (.lst (acc ++ us)) ∧ Reps cl M' y.toList us) → Nx H') :
    trG cl.K tg x (L2.wipe σ vs) H fun σ2 H2 => L2.wipe σ2 vs = L2.wipe σ vs ∧ tt σ2 H2 fun b H3 =>
      if b = true then te σ2 H3 fun y H4 => ∃ acc, H4 p = some (.lst acc) ∧ acc.length < sizeLine ∧ Nx (upd H4 p (.lst (acc ++ [y]))) else Nx H3 := by
  obtain ⟨Γ2, e1, e⟩ := bind_some' e
  obtain ⟨⟨b, Γ3⟩, e2, e⟩ := bind_some' e
  refine bind_ok o e1 r _ fun σ2 s2 k1 k2 k3 => ?_
  have wl : σ2.length = (L2.wipe σ vs).length := by rw [← s2.ok.len, ← o.len, k3]
  have we : L2.wipe σ2 vs = L2.wipe σ vs := by
    rw [wipe_eq wl fun j hj => k1 j fun z => hj (htg j z)]
    exact wipe_eq (wipe_length σ vs) fun j hj => wipe_out hj
  refine ⟨we, ?_⟩
  refine ht Γ2 b Γ3 e2 σ2 M H s2.ok _ fun M3 H3 s3 n3 => ?_
  have s23 := s2.trans s3 s2.own
  have nm : ∀ {Γ4 : Env}, Names' Γ3 Γ4 → Names' Γ (wipeE vs Γ4) := fun {Γ4} n4 i x ex => by
    by_cases hi : i ∈ vs
    · rw [hn i hi] at ex; cases ex
    · obtain ⟨y1, g1⟩ := n3 i x (by rw [k2 i fun z => hi (htg i z)]; exact ex)
      obtain ⟨y2, g2⟩ := n4 i y1 g1
      exact ⟨y2, by rw [wipeE_out hi]; exact g2⟩
  cases b with
  | false =>
    rw [if_neg Bool.false_ne_true]
    cases e
    obtain ⟨h1, h2, h3⟩ := s23.wiped (vs := vs) hv |>.rest hp mp np
    have sw := s23.wiped (vs := vs) hv
    rw [we] at sw h3
    exact q M3 H3 (sw.imp fun a z => .inl z) (fun i hi => wipeE_in hi) (nm Names'.refl) h2 h3 ⟨[], by rw [List.append_nil]; exact h1, Reps.nil⟩
  | true =>
    rw [if_pos rfl]
    obtain ⟨⟨rr, Γ4⟩, e3, e⟩ := bind_some' (show ((ee Γ3).bind fun r => (keepR lk r.1 r.2).map fun z => (some z.1, wipeE vs z.2)) = some (y, Γ') from e)
    obtain ⟨⟨yd, Γ5⟩, e4, e⟩ := map_some' e
    cases e
    refine he Γ3 rr Γ4 e3 σ2 M3 H3 s3.ok _ fun v M4 H4 s4 n4 v4 => ?_
    have s24 := s23.trans s4 s23.own
    obtain ⟨M5, s5, n5, r5⟩ := keepR_ok s4.ok s3.ok.fresh v4 e4
    have s25 := s24.trans s5 fun a z => z.elim (s24.own a) fun w => .inr (none_of_live s23.fr w.1)
    obtain ⟨h1, h2, h3⟩ := s25.wiped (vs := vs) hv |>.rest hp mp np
    have sw := s25.wiped (vs := vs) hv
    rw [we] at sw h3
    refine ⟨acc, h1, ha.resolve_right (fun z => by cases z), ?_⟩
    have s6 := sw.ok.other (lk := lk) (o := .lst (acc ++ [v])) hnp h2 h3
    refine q M5 _ ((sw.imp fun a z => .inl z).trans s6 fun a z => ?_) (fun i hi => wipeE_in hi) (nm (n4.trans n5)) h2 h3 ⟨[v], upd_same, Reps.cons r5 Reps.nil⟩
    rcases z with z | z
    · exact (sw.own a z).imp .inl id
    · exact .inl (.inr z)
theorem compL_cons {tb : D → Env → Option (Option D × Env)} {x : D} {xs ys : List D} {Γ Γ' : Env} (h : compL tb (x :: xs) Γ = some (ys, Γ')) : ∃ y Γ1 zs, tb x Γ = some (y, Γ1) ∧ compL tb xs Γ1 = some (zs, Γ') ∧ ys = y.toList ++ zs := by
  obtain ⟨⟨y, Γ1⟩, e1, e⟩ := bind_some' (show ((tb x Γ).bind fun p => (compL tb xs p.2).map fun q => (p.1.toList ++ q.1, q.2)) = some (ys, Γ') from h)
  obtain ⟨⟨zs, Γ2⟩, e2, e⟩ := map_some' e
  cases e
  exact ⟨y, Γ1, zs, e1, e2, rfl⟩
theorem comp_conds {Γ1 : Env} {tg vs : List Nat} (c1 : vs.all (fun i => match Γ1.at i with | some (_, true) => false | _ => true) = true) (c2 : tg.all (fun i => vs.contains i) = true) (c3 : vs.all (fun i => !lk.contains i) = true) :
    (∀ i, i ∈ lk → i ∉ vs) ∧ (∀ i, i ∈ tg → i ∈ vs) ∧ ∀ i d, i ∈ vs → Γ1.at i ≠ some (d, true) := by
  refine ⟨fun i h1 h2 => ?_, fun i h => ?_, fun i d h z => ?_⟩
  · have := List.all_eq_true.mp c3 i h2
    simp [h1] at this
  · have := List.all_eq_true.mp c2 i h
    simpa using this
  · have := List.all_eq_true.mp c1 i h
    simp only [z] at this
    cases this
/-- what is walked, as long as P holds -/
def WalksP (cl : Ct) (M : Hp) (P : Hp → Prop) (J : It) (ds : List D) : Prop :=
  (∀ (i : Nat) (d : D) (M1 H : Hp), Same M M1 → Same M1 H → P H → ds[i]? = some d → J.go i H ∧ ∀ x H', J.yld i H x H' → ∃ M2, Ext M1 H M2 H' ∧ Rep cl M2 d x) ∧ ∀ H, Same M H → P H → J.stop ds.length H
theorem Walks.p {M : Hp} {J : It} {ds : List D} (w : Walks cl M J ds) : WalksP cl M (fun _ => True) J ds := ⟨fun i d M1 H a b _ e => w.1 i d M1 H a b e, fun H a _ => w.2 H a⟩
theorem comp_core {tg vs : List Nat} {tt : TT} {te : TE} {t : Env → Option (Bool × Env)} {ee : Env → Option (R × Env)} (ht : SndT cl lk tt t) (he : SndE cl lk te ee) {Γ1 Γe : Env} {σ : St} {M1 H1 : Hp} {J : It} {ds ys : List D} {P : Hp → Prop} {Q : VK} (ok1 : OkS cl Γ1 σ M1 H1)
    (wk : WalksP cl M1 P J ds) (hP : ∀ M' H', Fr (fun a => isOwn Γ1 σ a ∨ H1 a = none) M1 H1 M' H' → P H') (hv : ∀ i, i ∈ lk → i ∉ vs) (htg : ∀ i, i ∈ tg → i ∈ vs) (hno : ∀ i d, i ∈ vs → Γ1.at i ≠ some (d, true))
    (e2 : compL (compTb lk tg vs t ee) ds (wipeE vs Γ1) = some (ys, Γe)) (c4 : ys.length ≤ sizeLine)
    (q : ∀ v M' H', Stp cl lk (fun a => isOwn Γ1 σ a ∨ H1 a = none) Γ1 σ M1 H1 (backE vs Γ1 Γe) σ M' H' → Names' Γ1 (backE vs Γ1 Γe) → RV cl (fun a => H1 a = none) (backE vs Γ1 Γe) σ M' H' (.ow (.lst ys)) v → Q v H') :
    ∀ p, H1 p = none → ∃ W : Nat → Nat → Hp → Prop, (∃ m, W 0 m (upd H1 p (.lst []))) ∧ ∀ i m H, W i m H →
      (J.stop i H ∧ Q (.ref p) H) ∨ (J.go i H ∧ ∃ Nx : Hp → Prop, (∀ H', Nx H' → ∃ m', m' < m ∧ W (i + 1) m' H') ∧ ∀ x H', J.yld i H x H' → trG cl.K tg x (L2.wipe σ vs) H' fun σ2 H2 => L2.wipe σ2 vs = L2.wipe σ vs ∧ tt σ2 H2 fun b H3 =>
        if b = true then te σ2 H3 fun y H4 => ∃ acc, H4 p = some (.lst acc) ∧ acc.length < sizeLine ∧ Nx (upd H4 p (.lst (acc ++ [y]))) else Nx H3) := by
  intro p hp
  obtain ⟨okw, ow⟩ := ok1.wipe vs
  have m1p : M1 p = none := ok1.sub.free hp
  have x0 := ext_own (o := .lst []) okw.sub hp
  have ok0 := okw.ext x0
  have no0 : ¬ isOwn (wipeE vs Γ1) (L2.wipe σ vs) p := fun z => (okw.own_at z).2 hp
  have pH : ∀ {Mi Hi : Hp}, Fr (fun a => isOwn (wipeE vs Γ1) (L2.wipe σ vs) a ∨ a = p) M1 (upd H1 p (.lst [])) Mi Hi → P Hi := fun {Mi Hi} f => hP Mi Hi ⟨fun a o h n => by
      have na : a ≠ p := fun z => n (.inr (z ▸ hp))
      exact f.keep a o (by rw [upd_ne na]; exact h) fun z => z.elim (fun w => n (.inl (ow a w))) na, fun a h => by
      have na : a ≠ p := fun z => h (z ▸ hp)
      exact f.live a (by rw [upd_ne na]; exact h), f.subM, fun a h h' => by
      by_cases na : a = p
      · exact .inr (.inr (na ▸ hp))
      · rcases f.new a h h' with z | z
        · rw [upd_ne na] at z; exact .inl z
        · exact .inr (.inl (z.elim (ow a) fun w => (na w).elim))⟩
  let Inv : Nat → Hp → Prop := fun i H => i ≤ ds.length ∧ ∃ Γi Mi accD accV rest, compL (compTb lk tg vs t ee) (ds.drop i) Γi = some (rest, Γe) ∧ accD ++ rest = ys ∧ Stp cl lk (fun a => isOwn (wipeE vs Γ1) (L2.wipe σ vs) a ∨ a = p) (wipeE vs Γ1) (L2.wipe σ vs) M1 (upd H1 p (.lst [])) Γi (L2.wipe σ vs) Mi H ∧
    (∀ i, i ∈ vs → Γi.at i = none) ∧ Names' (wipeE vs Γ1) Γi ∧ H p = some (.lst accV) ∧ Reps cl Mi accD accV ∧ Mi p = none ∧ ¬ isOwn Γi (L2.wipe σ vs) p
  refine ⟨fun i m H => m = ds.length - i ∧ Inv i H, ⟨ds.length, rfl, Nat.zero_le _, wipeE vs Γ1, M1, [], [], ys, e2, rfl, Stp.refl ok0 fun a h => .inl h, fun i h => wipeE_in h, Names'.refl, upd_same, Reps.nil, m1p, no0⟩, ?_⟩
  rintro i m H ⟨rfl, hil, Γi, Mi, accD, accV, rest, k1, k2, S, k3, k4, k5, k6, k7, k8⟩
  by_cases hlt : i < ds.length
  · obtain ⟨d, hd⟩ : ∃ d, ds[i]? = some d := ⟨ds[i], List.getElem?_eq_getElem hlt⟩
    have hdrop : ds.drop i = d :: ds.drop (i + 1) := by
      rw [List.drop_eq_getElem_cons hlt]
      have := List.getElem?_eq_getElem hlt
      rw [hd] at this
      cases this
      rfl
    rw [hdrop] at k1
    obtain ⟨y, Γn, zs, g1, g2, g3⟩ := compL_cons k1
    obtain ⟨go, step⟩ := wk.1 i d Mi H S.fr.subM S.ok.sub (pH S.fr) hd
    refine .inr ⟨go, Inv (i + 1), fun H' h' => ⟨ds.length - (i + 1), by omega, rfl, h'⟩, fun x H2 hy => ?_⟩
    obtain ⟨M2, ext, rx⟩ := step x H2 hy
    have o2 := S.ok.ext ext
    have hp2 : H2 p = some (.lst accV) := ext.1.keep p _ k5 fun z => z
    have mp2 : M2 p = none := by
      cases z : M2 p with
      | none => rfl
      | some u =>
        rcases ext.1.new p k7 (by rw [z]; exact fun z => nomatch z) with w | w
        · rw [w] at k5; cases k5
        · exact w.elim
    refine comp_turn (Γ' := Γn) (y := y) (acc := accV) ht he hv htg o2 k3 g1 rx (ok1.fresh p hp) hp2 mp2 k8 ?_ _ fun M' H' s' h1 h2 h3 h4 h5 => ?_
    · have hl : ys.length = accD.length + (y.toList.length + zs.length) := by rw [← k2, g3, List.length_append, List.length_append]
      cases y with
      | none => exact .inr rfl
      | some y =>
        refine .inl ?_
        rw [← k6.length]
        have c4' : ys.length ≤ sizeLine := c4
        simp at hl
        omega
    · obtain ⟨us, h6, h7⟩ := h5
      have S2 := S.trans (Stp.ext (lk := lk) (O := fun a => isOwn Γi (L2.wipe σ vs) a ∨ a = p) S.ok ext fun a z => .inl z) fun a z => z.elim (S.own a) fun w => .inl (.inr w)
      have S3 := S2.trans s' fun a z => z.elim (S.own a) fun w => .inl (.inr w)
      refine ⟨by omega, Γn, M', accD ++ y.toList, accV ++ us, zs, g2, by rw [List.append_assoc, ← g3]; exact k2, S3, h1, k4.trans h2, h6, Reps.append (Reps.mono (ext.1.subM.trans s'.fr.subM) k6) h7, h3, h4⟩
  · have hi' : i = ds.length := by omega
    subst hi'
    rw [List.drop_length] at k1
    cases k1
    rw [List.append_nil] at k2
    subst k2
    refine .inl ⟨wk.2 H (S.fr.subM.trans S.ok.sub) (pH S.fr), ?_⟩
    have gl : Γe.length = Γ1.length := by rw [S.ok.len, wipe_length, ok1.len]
    have own2 : ∀ a, isOwn (backE vs Γ1 Γe) σ a → isOwn Γe (L2.wipe σ vs) a := fun a ⟨j, d, h1, h2⟩ => by
      by_cases hj : j ∈ vs
      · rw [backE_in gl hj] at h1
        exact absurd h1 (hno j d hj)
      · rw [backE_out hj] at h1
        exact ⟨j, d, h1, by rw [wipe_out hj]; exact h2⟩
    have okb : OkC cl (backE vs Γ1 Γe) σ Mi H := by
      refine ⟨by rw [backE_len, gl]; exact ok1.len, S.ok.sub, fun j d b h1 => ?_, fun j k d1 d2 a h1 h2 h3 h4 => ?_⟩
      · by_cases hj : j ∈ vs
        · rw [backE_in gl hj] at h1
          obtain ⟨v, ev, sl⟩ := ok1.slot j d b h1
          refine ⟨v, ev, ?_⟩
          cases b with
          | true => exact absurd h1 (hno j d hj)
          | false => exact Rep.mono S.fr.subM sl
        · rw [backE_out hj] at h1
          have := S.ok.slot j d b h1
          rw [wipe_out hj] at this
          exact this
      · have one : ∀ j d, (backE vs Γ1 Γe).at j = some (d, true) → j ∉ vs ∧ Γe.at j = some (d, true) := fun j d h => by
          by_cases hj : j ∈ vs
          · rw [backE_in gl hj] at h; exact absurd h (hno j d hj)
          · rw [backE_out hj] at h; exact ⟨hj, h⟩
        obtain ⟨n1, g1⟩ := one j d1 h1
        obtain ⟨n2, g2⟩ := one k d2 h2
        exact S.ok.sep j k d1 d2 a g1 g2 (by rw [wipe_out n1]; exact h3) (by rw [wipe_out n2]; exact h4)
    have Sb : Stp cl lk (fun a => isOwn Γ1 σ a ∨ a = p) Γ1 σ M1 H1 (backE vs Γ1 Γe) σ Mi H := by
      refine Stp.mk' ok1 (fun x z => z.elim (ok1.ownN x) fun w => by rw [w]; exact ok1.fresh p hp) okb ⟨fun a o h n => ?_, fun a h => ?_, S.fr.subM, fun a h h' => ?_⟩ (fun a h => ?_) (fun _ _ => rfl) (fun j d hj h => ?_)
      · have na : a ≠ p := fun z => n (.inr z)
        exact S.fr.keep a o (by rw [upd_ne na]; exact h) fun z => z.elim (fun w => n (.inl (ow a w))) na
      · have na : a ≠ p := fun z => h (z ▸ hp)
        exact S.fr.live a (by rw [upd_ne na]; exact h)
      · by_cases na : a = p
        · exact .inr (.inr na)
        · rcases S.fr.new a h h' with z | z
          · rw [upd_ne na] at z; exact .inl z
          · exact .inr (z.imp (ow a) id)
      · rcases S.own a (own2 a h) with z | z
        · exact .inl (z.imp (ow a) id)
        · by_cases na : a = p
          · exact .inl (.inr na)
          · rw [upd_ne na] at z; exact .inr z
      · have nj := hv j hj
        obtain ⟨d', e'⟩ := S.lkg j d hj (by rw [wipeE_out nj]; exact h)
        exact ⟨d', by rw [backE_out nj]; exact e'⟩
    refine q (.ref p) Mi H (Sb.imp fun a z => z.imp id fun w => by rw [w]; exact hp) (fun j y h => ?_) ⟨p, .lst accV, rfl, k7, k5, ⟨accV, rfl, k6⟩, hp, fun z => k8 (own2 p z)⟩
    by_cases hj : j ∈ vs
    · exact ⟨y, by rw [backE_in gl hj]; exact h⟩
    · obtain ⟨y', h'⟩ := k4 j y (by rw [wipeE_out hj]; exact h)
      exact ⟨y', by rw [backE_out hj]; exact h'⟩
theorem snd_comp {tg vs : List Nat} {wi : TI} {tt : TT} {te : TE} {x : Env → Option (List D × Env)} {t : Env → Option (Bool × Env)} {ee : Env → Option (R × Env)} (hi : SndI cl lk wi x) (ht : SndT cl lk tt t) (he : SndE cl lk te ee) :
    SndE cl lk (tLc wi (trG cl.K tg) tt te vs) (fun Γ => (x Γ).bind fun p =>
      if vs.all (fun i => match p.2.at i with | some (_, true) => false | _ => true) ∧ tg.all (fun i => vs.contains i) ∧ vs.all (fun i => !lk.contains i) then
        (compL (compTb lk tg vs t ee) p.1 (wipeE vs p.2)).bind fun q =>
          if q.1.length ≤ sizeLine then some (.ow (.lst q.1), backE vs p.2 q.2) else none
      else none) := by
  intro Γ r Γ' e σ M H ok Q q
  obtain ⟨⟨ds, Γ1⟩, e1, e⟩ := bind_some' e
  obtain ⟨⟨c1, c2, c3⟩, e⟩ := ite_some e
  obtain ⟨⟨ys, Γe⟩, e2, e⟩ := bind_some' e
  obtain ⟨c4, e⟩ := ite_some e
  cases e
  obtain ⟨hv, htg, hno⟩ := comp_conds c1 c2 c3
  refine hi Γ ds Γ1 e1 σ M H ok _ fun J M1 H1 s1 n1 wk => ?_
  exact comp_core ht he s1.ok wk.p (fun _ _ _ => trivial) hv htg hno e2 c4 fun v M' H' S n r => q v M' H' (s1.trans S fun a z => z.elim (s1.own a) fun w => .inr (none_of_live s1.fr w)) (n1.trans n) (r.imp fun a h => none_of_live s1.fr h)
/-- a name forgotten -/
theorem OkS.dropAt {Γ : Env} {σ : St} {M H : Hp} (i : Nat) (o : OkS cl Γ σ M H) : OkS cl (Γ.set i none) σ M H ∧ ∀ a, isOwn (Γ.set i none) σ a → ∃ j d, j ≠ i ∧ Γ.at j = some (d, true) ∧ σ[j]? = some (some (.ref a)) := by
  have go : ∀ j x, Env.at (Γ.set i none) j = some x → j ≠ i ∧ Γ.at j = some x := fun j x z => by
    by_cases w : i = j
    · subst w
      by_cases l : i < Γ.length
      · rw [at_set_same l] at z; cases z
      · unfold Env.at at z; rw [List.getElem?_eq_none (by rw [List.length_set]; omega)] at z; cases z
    · rw [at_set_ne w] at z; exact ⟨Ne.symm w, z⟩
  have ow : ∀ a, isOwn (Γ.set i none) σ a → ∃ j d, j ≠ i ∧ Γ.at j = some (d, true) ∧ σ[j]? = some (some (.ref a)) := fun a ⟨j, d, h1, h2⟩ => ⟨j, d, (go j _ h1).1, (go j _ h1).2, h2⟩
  exact ⟨⟨⟨by rw [List.length_set]; exact o.len, o.sub, fun j d b z => o.slot j d b (go j _ z).2, fun j k d1 d2 x h1 h2 => o.sep j k d1 d2 x (go j _ h1).2 (go k _ h2).2⟩, o.fresh, fun a h => by
    obtain ⟨j, d, _, h1, h2⟩ := ow a h
    exact o.ownN a ⟨j, d, h1, h2⟩⟩, ow⟩
/-- what a name held on its own, back again behind steps that knew nothing of it -/
theorem Stp.restore {Γ Γ' : Env} {σ σ' : St} {M H M' H' : Hp} {i : Nat} {ds : List D} {a : Addr} {vs : List V} (ok : OkS cl Γ σ M H) (e : Γ.at i = some (.lst ds, true)) (ea : σ[i]? = some (some (.ref a))) (m : M a = none) (h : H a = some (.lst vs)) (r : Reps cl M ds vs) (hs : σ'[i]? = σ[i]?)
    (s : Stp cl lk (fun a => isOwn (Γ.set i none) σ a ∨ H a = none) (Γ.set i none) σ M H Γ' σ' M' H') : Stp cl lk (isOwn Γ σ) Γ σ M H (Γ'.set i (some (.lst ds, true))) σ' M' H' ∧ H' a = some (.lst vs) ∧ ∀ b, isOwn (Γ'.set i (some (.lst ds, true))) σ' b → b = a ∨ isOwn Γ' σ' b := by
  obtain ⟨ok1, ow⟩ := ok.dropAt i
  have nO : ¬ (isOwn (Γ.set i none) σ a ∨ H a = none) := fun z => by
    rcases z with z | z
    · obtain ⟨j, d, nj, h1, h2⟩ := ow a z
      exact nj (ok.sep j i _ _ a h1 e h2 ea)
    · rw [z] at h; cases h
  have ha : H' a = some (.lst vs) := s.fr.keep a _ h nO
  have ma : M' a = none := by
    cases z : M' a with
    | none => rfl
    | some u =>
      rcases s.fr.new a m (by rw [z]; exact fun z => nomatch z) with w | w
      · rw [w] at h; cases h
      · exact (nO w).elim
  have no' : ¬ isOwn Γ' σ' a := fun z => by
    rcases s.own a z with w | w
    · exact nO w
    · rw [w] at h; cases h
  have li : i < Γ'.length := by
    rw [s.ok.len]
    have := (List.getElem?_eq_some_iff.mp (hs.trans ea)).1
    exact this
  have go : ∀ j x, Env.at (Γ'.set i (some (.lst ds, true))) j = some x → j = i ∨ (j ≠ i ∧ Γ'.at j = some x) := fun j x z => by
    by_cases w : i = j
    · exact .inl w.symm
    · rw [at_set_ne w] at z; exact .inr ⟨Ne.symm w, z⟩
  have ow2 : ∀ b, isOwn (Γ'.set i (some (.lst ds, true))) σ' b → b = a ∨ isOwn Γ' σ' b := fun b ⟨j, d, h1, h2⟩ => by
    rcases go j _ h1 with w | ⟨_, w⟩
    · subst w
      rw [hs, ea] at h2
      cases h2
      exact .inl rfl
    · exact .inr ⟨j, d, w, h2⟩
  have owA : isOwn Γ σ a := ⟨i, _, e, ea⟩
  have back : ∀ b, (isOwn (Γ.set i none) σ b ∨ H b = none) → isOwn Γ σ b ∨ H b = none := fun b z => z.imp (fun z => by
    obtain ⟨j, d, _, h1, h2⟩ := ow b z
    exact ⟨j, d, h1, h2⟩) id
  refine ⟨Stp.mk' ok ok.ownN ⟨by rw [List.length_set]; exact s.ok.len, s.ok.sub, fun j d b z => ?_, fun j k d1 d2 x h1 h2 h3 h4 => ?_⟩ ⟨fun b o z n => s.fr.keep b o z fun w => (back b w).elim n fun w => (by rw [w] at z; cases z), s.fr.live, s.fr.subM, fun b z z' => (s.fr.new b z z').elim .inl fun w => (back b w).symm⟩ (fun b z => ?_) s.lks (fun j d hj z => ?_), ha, ow2⟩
  · rcases go j _ z with w | ⟨_, w⟩
    · subst w
      rw [at_set_same li] at z
      cases z
      exact ⟨_, hs.trans ea, a, _, rfl, ma, ha, vs, rfl, r.mono s.fr.subM⟩
    · exact s.ok.slot j d b w
  · rcases go j _ h1 with w | ⟨w0, w⟩
    · subst w
      rcases go k _ h2 with w1 | ⟨w1, w2⟩
      · exact w1.symm
      · rw [hs, ea] at h3
        cases h3
        exact (no' ⟨k, d2, w2, h4⟩).elim
    · rcases go k _ h2 with w1 | ⟨w1, w2⟩
      · subst w1
        rw [hs, ea] at h4
        cases h4
        exact (no' ⟨j, d1, w, h3⟩).elim
      · exact s.ok.sep j k d1 d2 x w w2 h3 h4
  · rcases ow2 b z with w | w
    · exact .inl (w ▸ owA)
    · exact (s.own b w).elim (back b) .inr
  · by_cases w : i = j
    · subst w; exact ⟨_, at_set_same li⟩
    · obtain ⟨d', e'⟩ := s.lkg j d hj (by rw [at_set_ne w]; exact z)
      exact ⟨d', by rw [at_set_ne w]; exact e'⟩
theorem walksP_list {M : Hp} {a : Addr} {vs : List V} {ds : List D} (r : Reps cl M ds vs) : WalksP cl M (fun H => H a = some (.lst vs)) (Itl cl.K a) ds := by
  refine ⟨fun i d M1 H s1 s2 hp e => ?_, fun H s hp => ⟨vs, SqL.of hp, by rw [r.length]; exact Nat.le_refl _⟩⟩
  obtain ⟨v, e1, r1⟩ := r.get e
  refine ⟨⟨vs, v, SqL.of hp, e1⟩, fun x H' ⟨eh, hy⟩ => ?_⟩
  subst eh
  have e2 := hy vs (SqL.of hp)
  rw [e1] at e2
  cases e2
  exact ⟨M1, ext_refl s2, r1.mono s1⟩
/-- a name's own list, walked: it stands still meanwhile -/
theorem snd_compV {tg vs : List Nat} {i : Nat} {tt : TT} {te : TE} {t : Env → Option (Bool × Env)} {ee : Env → Option (R × Env)} (ht : SndT cl lk tt t) (he : SndE cl lk te ee) :
    SndE cl lk (tLc (iList cl.K (tVar i)) (trG cl.K tg) tt te vs) (fun Γ => match Γ.at i with
      | some (.lst ds, true) => if vs.all (fun j => match Env.at (Γ.set i none) j with | some (_, true) => false | _ => true) ∧ tg.all (fun i => vs.contains i) ∧ vs.all (fun i => !lk.contains i) then
        (compL (compTb lk tg vs t ee) ds (wipeE vs (Γ.set i none))).bind fun q =>
          if q.1.length ≤ sizeLine then some (.ow (.lst q.1), (backE vs (Γ.set i none) q.2).set i (some (.lst ds, true))) else none
      else none
      | _ => none) := by
  intro Γ r Γ' e σ M H ok Q q
  cases e0 : Γ.at i with
  | none => simp only [e0] at e; cases e
  | some y =>
    obtain ⟨d, b⟩ := y
    simp only [e0] at e
    cases d <;> cases b <;> try (cases e; done)
    obtain ⟨⟨c1, c2, c3⟩, e⟩ := ite_some e
    obtain ⟨⟨ys, Γe⟩, e2, e⟩ := bind_some' e
    obtain ⟨c4, e⟩ := ite_some e
    cases e
    obtain ⟨hv, htg, hno⟩ := comp_conds c1 c2 c3
    obtain ⟨v, ev, sl⟩ := ok.slot i _ _ e0
    obtain ⟨a, o, rfl, m, hh, t⟩ := (show ∃ a o, v = V.ref a ∧ M a = none ∧ H a = some o ∧ Top cl M _ o from sl)
    obtain ⟨us, rfl, hr⟩ := t
    obtain ⟨ok1, ow⟩ := ok.dropAt i
    have nO : ¬ (isOwn (Γ.set i none) σ a ∨ H a = none) := fun z => by
      rcases z with z | z
      · obtain ⟨j, d, nj, h1, h2⟩ := ow a z
        exact nj (ok.sep j i _ _ a h1 e0 h2 ev)
      · rw [z] at hh; cases hh
    refine ⟨_, ev, a, rfl, ⟨us, SqL.of hh⟩, ?_⟩
    refine comp_core ht he ok1 (walksP_list hr) (fun M' H' f => f.keep a _ hh nO) hv htg hno e2 c4 fun v M' H' S n r => ?_
    obtain ⟨S2, ha, ow2⟩ := S.restore ok e0 ev m hh hr rfl
    refine q v M' H' S2 (fun j x z => ?_) ?_
    · have li : i < (backE vs (Γ.set i none) Γe).length := by
        rw [S.ok.len]
        exact (List.getElem?_eq_some_iff.mp ev).1
      by_cases w : i = j
      · subst w; exact ⟨_, at_set_same li⟩
      · obtain ⟨y, e'⟩ := n j x (by rw [at_set_ne w]; exact z)
        exact ⟨y, by rw [at_set_ne w]; exact e'⟩
    · obtain ⟨p, o, e, m', q', t', y, z⟩ := r
      exact ⟨p, o, e, m', q', t', y, fun w => (ow2 p w).elim (fun w => by rw [w, hh] at y; cases y) z⟩
theorem reps_at {M : Hp} {kvs : List (Key × V)} {ds : List D} (r : Reps cl M ds (kvs.map (·.2))) {i : Nat} {k : Key} {v : V} (h : kvs[i]? = some (k, v)) : ∃ d, ds[i]? = some d ∧ Rep cl M d v := by
  have hl := r.length
  rw [List.length_map] at hl
  have hi := (List.getElem?_eq_some_iff.mp h).1
  obtain ⟨d, hd⟩ : ∃ d, ds[i]? = some d := ⟨_, List.getElem?_eq_getElem (by omega)⟩
  obtain ⟨v', e, r'⟩ := r.get hd
  rw [List.getElem?_map, h] at e
  cases e
  exact ⟨d, hd, r'⟩
theorem keyD_rep {M : Hp} (k : Key) : Rep cl M (keyD k) (kV k) := by cases k <;> rfl
/-- what a dict's walk gives -/
theorem walksW {M : Hp} {d : Addr} {o : Obj} {kvs : List (Key × V)} {ds : List D} (r : Reps cl M ds (kvs.map (·.2))) (w : Wk) :
    ∃ J : It, (∀ {td : TE} {σ : St} {H : Hp} {R : It → Hp → Prop}, td σ H (fun x H1 => x = .ref d ∧ H1 d = some (.frz o (.dK kvs)) ∧ R J H1) → (∀ (f g : VK), (∀ x H, f x H → g x H) → td σ H f → td σ H g) → iWk w td σ H R) ∧ WalksP cl M (fun H => H d = some (.frz o (.dK kvs))) J (wkD w (kvs.map (·.1)) ds) := by
  have hl := r.length
  rw [List.length_map] at hl
  cases w with
  | keys =>
    refine ⟨Itk d o kvs, fun {td σ H R} h mono => mono _ _ (fun x H1 ⟨e, m, q⟩ => ⟨d, o, e, .inl ⟨kvs, m, q⟩⟩) h, fun i x M1 H s1 s2 hp e => ?_, fun H s hp => ⟨hp, by simp [wkD]⟩⟩
    have e : ((kvs.map (·.1)).map keyD)[i]? = some x := e
    rw [List.map_map, List.getElem?_map] at e
    obtain ⟨⟨k, v⟩, e1, e2⟩ := Option.map_eq_some_iff.mp e
    refine ⟨⟨hp, (List.getElem?_eq_some_iff.mp e1).1⟩, fun y H' ⟨eh, k', v', e3, ey⟩ => ?_⟩
    rw [e1] at e3
    cases e3
    subst eh ey
    exact ⟨M1, ext_refl s2, by rw [← e2]; exact keyD_rep k⟩
  | vals =>
    refine ⟨Itd d o kvs, fun {td σ H R} h mono => mono _ _ (fun x H1 ⟨e, m, q⟩ => ⟨d, o, kvs, e, m, q⟩) h, fun i x M1 H s1 s2 hp e => ?_, fun H s hp => ⟨hp, by show kvs.length ≤ ds.length; omega⟩⟩
    have e : ds[i]? = some x := e
    have hi := (List.getElem?_eq_some_iff.mp e).1
    refine ⟨⟨hp, by omega⟩, fun y H' ⟨eh, k', e3⟩ => ?_⟩
    obtain ⟨d', e4, r'⟩ := reps_at r e3
    rw [e] at e4
    cases e4
    subst eh
    exact ⟨M1, ext_refl s2, r'.mono s1⟩
  | items =>
    refine ⟨Iti d o kvs, fun {td σ H R} h mono => mono _ _ (fun x H1 ⟨e, m, q⟩ => ⟨d, o, kvs, e, m, q⟩) h, fun i x M1 H s1 s2 hp e => ?_, fun H s hp => ⟨hp, by show kvs.length ≤ (List.zipWith _ _ _).length; rw [List.length_zipWith, List.length_map]; omega⟩⟩
    have e : (List.zipWith (fun k d => D.tup [keyD k, d]) (kvs.map (·.1)) ds)[i]? = some x := e
    rw [List.getElem?_zipWith] at e
    obtain ⟨⟨k, v⟩, e1⟩ : ∃ p, kvs[i]? = some p := by
      cases z : kvs[i]? with
      | some p => exact ⟨p, rfl⟩
      | none => rw [List.getElem?_map, z] at e; cases e
    obtain ⟨d', e4, r'⟩ := reps_at r e1
    rw [List.getElem?_map, e1, e4] at e
    cases e
    refine ⟨⟨hp, (List.getElem?_eq_some_iff.mp e1).1⟩, fun y H' ⟨T, k', v', e3, ey, hT, eh⟩ => ?_⟩
    rw [e1] at e3
    cases e3
    subst eh ey
    refine ⟨upd M1 T (.tup [kV k, v]), ext_sh s2 hT, T, [kV k, v], rfl, upd_same, ?_⟩
    have s3 : Same M1 (upd M1 T (.tup [kV k, v])) := fun a u e => by rw [upd_ne (ne_of_none e (s2.free hT))]; exact e
    exact Reps.cons (keyD_rep k) (Reps.cons (r'.mono (s1.trans s3)) Reps.nil)
theorem dctAt_ok {Γ : Env} {σ : St} {M H : Hp} (ok : OkS cl Γ σ M H) {i : Nat} {ks : List Key} {ds : List D} (e : dctAt Γ i = some (ks, ds)) : ∃ (a : Addr) (kvs : List (Key × V)), σ[i]? = some (some (.ref a)) ∧ Rd M a (.dK kvs) ∧ kvs.map (·.1) = ks ∧ Reps cl M ds (kvs.map (·.2)) := by
  unfold dctAt at e
  cases e0 : Γ.at i with
  | none => simp only [e0] at e; cases e
  | some y =>
    obtain ⟨d, b⟩ := y
    simp only [e0] at e
    cases b with
    | true => cases e
    | false =>
      obtain ⟨v, ev, sl⟩ := ok.slot i d false e0
      have r := Rep.un (show Rep cl M d v from sl)
      cases hu : d.un <;> simp only [hu] at e <;> try (cases e; done)
      cases e
      rw [hu] at r
      obtain ⟨a, kvs, rfl, m, k, r⟩ := r
      exact ⟨a, kvs, ev, m, k, r⟩
theorem snd_compW {w : Wk} {tg vs : List Nat} {i : Nat} {tt : TT} {te : TE} {t : Env → Option (Bool × Env)} {ee : Env → Option (R × Env)} (ht : SndT cl lk tt t) (he : SndE cl lk te ee) :
    SndE cl lk (tWalkE (tLc (iWk w (tVar i)) (trG cl.K tg) tt te vs)) (fun Γ => (dctAt Γ i).bind fun kd =>
      if vs.all (fun i => match Γ.at i with | some (_, true) => false | _ => true) ∧ tg.all (fun i => vs.contains i) ∧ vs.all (fun i => !lk.contains i) then
        (compL (compTb lk tg vs t ee) (wkD w kd.1 kd.2) (wipeE vs Γ)).bind fun q =>
          if q.1.length ≤ sizeLine then some (.ow (.lst q.1), backE vs Γ q.2) else none
      else none) := by
  intro Γ r Γ' e σ M H ok Q q
  obtain ⟨⟨ks, ds⟩, e0, e⟩ := bind_some' e
  obtain ⟨⟨c1, c2, c3⟩, e⟩ := ite_some e
  obtain ⟨⟨ys, Γe⟩, e2, e⟩ := bind_some' e
  obtain ⟨c4, e⟩ := ite_some e
  cases e
  obtain ⟨hv, htg, hno⟩ := comp_conds c1 c2 c3
  obtain ⟨a, kvs, ev, rd, ek, r⟩ := dctAt_ok ok e0
  subst ek
  obtain ⟨u, hu, k⟩ := Dk.of rd
  have hH := ok.sub a u hu
  -- with the lock
  have main : ∀ od, (∀ v M' H', Stp cl lk (fun b => isOwn Γ σ b ∨ H b = none) Γ σ M H (backE vs Γ Γe) σ M' H' → Names' Γ (backE vs Γ Γe) → RV cl (fun b => H b = none) (backE vs Γ Γe) σ M' H' (.ow (.lst ys)) v → Q v H') →
      tLc (iWk w (tVar i)) (trG cl.K tg) tt te vs σ (upd H a (.frz od (.dK kvs))) fun v H' => H' a = some (.frz od (.dK kvs)) ∧ Q v (upd H' a u) := fun od q => by
    have k' : Dk kvs (.frz od (.dK kvs)) := .inr ⟨od, rfl⟩
    have ok' := ok.swp hu k k'
    have r' := r.swp hu k k'
    obtain ⟨J, hJ, wk⟩ := walksW (o := od) (d := a) r' w
    refine hJ (td := tVar i) (show ∃ v, σ[i]? = some (some v) ∧ _ from ⟨_, ev, rfl, upd_same, ?_⟩) (fun f g h ⟨v, e, x⟩ => ⟨v, e, h _ _ x⟩)
    have nO : ¬ (isOwn Γ σ a ∨ upd H a (.frz od (.dK kvs)) a = none) := fun z => by
      rcases z with ⟨j, d, h1, h2⟩ | z
      · obtain ⟨v, e1, s⟩ := ok.slot j d true h1
        obtain ⟨b, o, rfl, m, _⟩ := (show ∃ a o, v = V.ref a ∧ M a = none ∧ H a = some o ∧ Top cl M d o from s)
        rw [h2] at e1
        cases e1
        rw [hu] at m
        cases m
      · rw [upd_same] at z; cases z
    refine comp_core (Q := fun v H' => H' a = some (.frz od (.dK kvs)) ∧ Q v (upd H' a u)) ht he ok' wk (fun M' H' f => f.keep a _ upd_same nO) hv htg hno e2 c4 fun v M' H' S n rv => ?_
    obtain ⟨h2, m2, S2⟩ := Stp.unlock hu hH k k' nO S
    have imp : ∀ b, isOwn Γ σ b ∨ upd H a (.frz od (.dK kvs)) b = none → isOwn Γ σ b ∨ H b = none := fun b z => z.imp id fun z => by
      by_cases c : b = a
      · subst c; rw [upd_same] at z; cases z
      · rw [upd_ne c] at z; exact z
    refine ⟨h2, q v _ _ (S2.imp imp) n ?_⟩
    obtain ⟨p, o, e, m', q', t', y, z⟩ := rv
    have np : p ≠ a := fun w => by rw [w, m2] at m'; cases m'
    refine ⟨p, o, e, by rw [upd_ne np]; exact m', by rw [upd_ne np]; exact q', t'.swp m2 k' k, ?_, z⟩
    rw [upd_ne np] at y
    exact y
  have q' : ∀ v M' H', Stp cl lk (fun b => isOwn Γ σ b ∨ H b = none) Γ σ M H (backE vs Γ Γe) σ M' H' → Names' Γ (backE vs Γ Γe) → RV cl (fun b => H b = none) (backE vs Γ Γe) σ M' H' (.ow (.lst ys)) v → Q v H' := fun v M' H' S n r => q v M' H' ((Stp.rfl' (lk := lk) ok).trans S fun b z => z) n r
  rcases k with rfl | ⟨od, rfl⟩
  · exact .inl ⟨a, _, hH, trivial, fun od => main od q'⟩
  · refine .inr ?_
    obtain ⟨J, hJ, wk⟩ := walksW (o := od) (d := a) r w
    refine hJ (td := tVar i) (show ∃ v, σ[i]? = some (some v) ∧ _ from ⟨_, ev, rfl, hH, ?_⟩) (fun f g h ⟨v, e, x⟩ => ⟨v, e, h _ _ x⟩)
    refine comp_core ht he ok wk (fun M' H' f => f.keep a _ hH fun z => ?_) hv htg hno e2 c4 q'
    rcases z with ⟨j, d, h1, h2⟩ | z
    · obtain ⟨v, e1, s⟩ := ok.slot j d true h1
      obtain ⟨b, o, rfl, m, _⟩ := (show ∃ a o, v = V.ref a ∧ M a = none ∧ H a = some o ∧ Top cl M d o from s)
      rw [h2] at e1
      cases e1
      rw [hu] at m
      cases m
    · rw [hH] at z; cases z
/-- every piece is sound -/
theorem snd_all (g : Cfg) : ∀ {Φ : Pm}, Sees cl.toCt0 g Φ → ∀ c : E, Snd cl g.lk (tr cl.K Φ c) (ev g c)
  | Φ, hΦ, .var i => snd_var.snd
  | Φ, hΦ, .cst v => snd_cst.snd
  | Φ, hΦ, .bin o a b => (snd_bin (snd_all g hΦ a).e (snd_all g hΦ b).e).snd
  | Φ, hΦ, .cmp o a b => snd_cmp (snd_all g hΦ a).e (snd_all g hΦ b).e
  | Φ, hΦ, .nt a => snd_nt (snd_all g hΦ a).e (snd_all g hΦ a).t
  | Φ, hΦ, .neg a => (snd_neg (snd_all g hΦ a).e).snd
  | Φ, hΦ, .and_ a b => snd_and (snd_all g hΦ a).e (snd_all g hΦ b).e (snd_all g hΦ a).t (snd_all g hΦ b).t
  | Φ, hΦ, .or_ a b => snd_or (snd_all g hΦ a).e (snd_all g hΦ b).e (snd_all g hΦ a).t (snd_all g hΦ b).t
  | Φ, hΦ, .andT a b => (snd_andT (snd_all g hΦ a).e (snd_all g hΦ b).e).snd
  | Φ, hΦ, .ite c a b => (snd_ite (snd_all g hΦ c).t (snd_all g hΦ a).e (snd_all g hΦ b).e).snd
  | Φ, hΦ, .nil => snd_nil.snd
  | Φ, hΦ, .cons a r => (snd_cons (snd_all g hΦ a).e (snd_all g hΦ r).a).snd
  | Φ, hΦ, .lst as => (snd_lst (snd_all g hΦ as).a).snd
  | Φ, hΦ, .tup as => (snd_tup (snd_all g hΦ as).a).snd
  | Φ, hΦ, .dnew => snd_dnew.snd
  | Φ, hΦ, .idx a b => (snd_idx (snd_all g hΦ a).e (snd_all g hΦ b).e).snd
  | Φ, hΦ, .sl a lo hi => (snd_sl (snd_all g hΦ a).e (snd_all g hΦ lo).o (snd_all g hΦ hi).o).snd
  | Φ, hΦ, .nopart => ⟨snd_noE, snd_noA, fun Γ b Γ' e σ M H ok Q q => by cases e; exact q M H (Stp.rfl' ok) Names'.refl, fun Γ b Γ' e σ M H ok Q q => by cases e; exact q M H (Stp.rfl' ok) Names'.refl, snd_noI⟩
  | Φ, hΦ, .bi f as => (snd_bi (snd_all g hΦ as).a).snd
  | Φ, hΦ, .isi a t => (snd_isi (snd_all g hΦ a).e).snd
  | Φ, hΦ, .keysL a => (snd_keysL (snd_all g hΦ a).e).snd
  | Φ, hΦ, .minD a => (snd_minD (snd_all g hΦ a).e).snd
  | Φ, hΦ, .lenSet a => (snd_lenSet (snd_all g hΦ a).e).snd
  | Φ, hΦ, .dsp ks => snd_dsp.snd
  | Φ, hΦ, .rep a y z => (snd_rep (snd_all g hΦ a).e).snd
  | Φ, hΦ, .partn a b => (snd_partn (snd_all g hΦ a).e (snd_all g hΦ b).e).snd
  | Φ, hΦ, .revL a => (snd_revL (snd_all g hΦ a).e).snd
  | Φ, hΦ, .bm m o as => (snd_bm (snd_all g hΦ o).e (snd_all g hΦ as).a).snd
  | Φ, hΦ, .get1 o k => (snd_get1 (snd_all g hΦ o).e (snd_all g hΦ k).e).snd
  | Φ, hΦ, .get2 o k x => (snd_get2 (snd_all g hΦ o).e (snd_all g hΦ k).e (snd_all g hΦ x).e).snd
  | Φ, hΦ, .mut m i as => (snd_mut (snd_all g hΦ as).a).snd
  | Φ, hΦ, .call f as => (snd_call (g := g) (hΦ.call f) (snd_all g hΦ as).a).snd
  | Φ, hΦ, .mutE m o as => snd_noE.snd
  | Φ, hΦ, .fld cs o f => (snd_fld hΦ.cc (snd_all g hΦ o).e).snd
  | Φ, hΦ, .new c f as => (snd_new (congrFun hΦ.cc c) (hΦ.call f) (snd_all g hΦ as).a).snd
  | Φ, hΦ, .meth m tbl o as => (snd_meth hΦ.cc hΦ.call (snd_all g hΦ o).e (snd_all g hΦ as).a).snd
  | Φ, hΦ, .itRev as => (snd_itRev (snd_all g hΦ as).a).snd
  | Φ, hΦ, .compW w vs i tg c e => (snd_compW (snd_all g (hΦ.at E0) c).t (snd_all g (hΦ.at E0) e).e).snd
  | Φ, hΦ, .compV vs i tg c e => (snd_compV (snd_all g (hΦ.at E0) c).t (snd_all g (hΦ.at E0) e).e).snd
  | Φ, hΦ, .comp vs it tg c e => (snd_comp (snd_all g hΦ it).i (snd_all g (hΦ.at E0) c).t (snd_all g (hΦ.at E0) e).e).snd
  | Φ, hΦ, .itL e => (snd_itL (snd_all g hΦ e).e).snd
  | Φ, hΦ, .itT e => (snd_itT (snd_all g hΦ e).e).snd
  | Φ, hΦ, .itR1 as => (snd_itR1 (snd_all g hΦ as).a).snd
  | Φ, hΦ, .itR2 as => (snd_itR2 (snd_all g hΦ as).a).snd
  | Φ, hΦ, .itE as => (snd_itE (snd_all g hΦ as).a).snd
  | Φ, hΦ, .itS e => (snd_itS (snd_all g hΦ e).e).snd
end Dv
namespace Dv
open PySem PySem.Spec L2
variable {cl : Ct} {lk : List Nat}
/-! ### soundness of the statements -/
def freeOwn (lk : List Nat) (Γ : Env) (σ : St) (a : Addr) : Prop := ∃ i d, i ∉ lk ∧ Γ.at i = some (d, true) ∧ σ[i]? = some (some (.ref a))
theorem Stp.free {Γ Γ1 : Env} {σ σ1 : St} {M H M1 H1 : Hp} (s : Stp cl lk (isOwn Γ σ) Γ σ M H Γ1 σ1 M1 H1) {a : Addr} (h : freeOwn lk Γ1 σ1 a) : H a = none ∨ freeOwn lk Γ σ a := by
  obtain ⟨i, d, h1, h2, h3⟩ := h
  rcases s.own a ⟨i, d, h2, h3⟩ with ⟨j, d2, h4, h5⟩ | z
  · by_cases hj : j ∈ lk
    · obtain ⟨d3, h6⟩ := s.lkg j d2 hj h4
      have h7 := s.lks j hj
      rw [h5] at h7
      exact absurd (s.ok.sep i j d d3 a h2 h6 h3 h7 ▸ hj) h1
    · exact .inr ⟨j, d2, hj, h4, h5⟩
  · exact .inl z
/-- what must follow -/
def PostS (cl : Ct) (lk : List Nat) (Γ : Env) (σ : St) (M H : Hp) (D : Ends) : Out → Prop
  | .nx Γ' => ∀ σ' M' H', Stp cl lk (isOwn Γ σ) Γ σ M H Γ' σ' M' H' → D.nx σ' H'
  | .bk Γ' => ∀ σ' M' H', Stp cl lk (isOwn Γ σ) Γ σ M H Γ' σ' M' H' → D.bk σ' H'
  | .ct Γ' => ∀ σ' M' H', Stp cl lk (isOwn Γ σ) Γ σ M H Γ' σ' M' H' → D.ct σ' H'
  | .rt d b Γ' => ∀ v σ' M' H', Stp cl lk (isOwn Γ σ) Γ σ M H Γ' σ' M' H' → RV cl (fun a => H a = none ∨ freeOwn lk Γ σ a) Γ' σ' M' H' (if b then .ow d else .sh d) v → D.rt v H'
def SndS (cl : Ct) (lk : List Nat) (ts : TS) (x : Env → Option Out) : Prop :=
  ∀ Γ o, x Γ = some o → ∀ σ M H, OkS cl Γ σ M H → ∀ D : Ends, PostS cl lk Γ σ M H D o → ts D σ H
theorem PostS.after {Γ Γ1 : Env} {σ σ1 : St} {M H M1 H1 : Hp} {D : Ends} {o : Out} (s : Stp cl lk (isOwn Γ σ) Γ σ M H Γ1 σ1 M1 H1) (q : PostS cl lk Γ σ M H D o) : PostS cl lk Γ1 σ1 M1 H1 D o := by
  cases o with
  | nx Γ' => exact fun σ' M' H' s2 => q σ' M' H' (s.trans s2 s.own)
  | bk Γ' => exact fun σ' M' H' s2 => q σ' M' H' (s.trans s2 s.own)
  | ct Γ' => exact fun σ' M' H' s2 => q σ' M' H' (s.trans s2 s.own)
  | rt d b Γ' => exact fun v σ' M' H' s2 r => q v σ' M' H' (s.trans s2 s.own) (r.imp fun a h => h.elim (fun z => .inl (none_of_live s.fr z)) s.free)
theorem PostS.ends {Γ : Env} {σ : St} {M H : Hp} {D D' : Ends} {o : Out} (q : PostS cl lk Γ σ M H D o) (h1 : ∀ σ H, D.nx σ H → D'.nx σ H) (h2 : ∀ σ H, D.bk σ H → D'.bk σ H) (h3 : ∀ σ H, D.ct σ H → D'.ct σ H) (h4 : ∀ σ H, D.rt σ H → D'.rt σ H) : PostS cl lk Γ σ M H D' o := by
  cases o with
  | nx Γ' => exact fun σ' M' H' s => h1 _ _ (q σ' M' H' s)
  | bk Γ' => exact fun σ' M' H' s => h2 _ _ (q σ' M' H' s)
  | ct Γ' => exact fun σ' M' H' s => h3 _ _ (q σ' M' H' s)
  | rt d b Γ' => exact fun v σ' M' H' s r => h4 _ _ (q v σ' M' H' s r)
theorem snd_skip : SndS cl lk tNext (fun Γ => some (.nx Γ)) := fun Γ o e σ M H ok D q => by cases e; exact q σ M H (Stp.rfl' ok)
theorem snd_brk : SndS cl lk tBreak (fun Γ => some (.bk Γ)) := fun Γ o e σ M H ok D q => by cases e; exact q σ M H (Stp.rfl' ok)
theorem snd_cnt : SndS cl lk tCont (fun Γ => some (.ct Γ)) := fun Γ o e σ M H ok D q => by cases e; exact q σ M H (Stp.rfl' ok)
theorem snd_retN : SndS cl lk tRetN (fun Γ => some (.rt .non false Γ)) := fun Γ o e σ M H ok D q => by cases e; exact q .non σ M H (Stp.rfl' ok) rfl
theorem snd_seq {t u : TS} {x y : Env → Option Out} (h1 : SndS cl lk t x) (h2 : SndS cl lk u y) : SndS cl lk (tSeq t u) (fun Γ => (x Γ).bind fun o => match o with
    | .nx Γ1 => y Γ1
    | o => some o) := by
  intro Γ o e σ M H ok D q
  obtain ⟨o1, e1, e⟩ := bind_some' e
  refine h1 Γ o1 e1 σ M H ok _ ?_
  cases o1 with
  | nx Γ1 => exact fun σ1 M1 H1 s1 => h2 Γ1 o e σ1 M1 H1 s1.ok D (q.after s1)
  | bk Γ1 => cases e; exact q
  | ct Γ1 => cases e; exact q
  | rt d b Γ1 => cases e; exact q
theorem snd_ex {te : TE} {x : Env → Option (R × Env)} (h : SndE cl lk te x) : SndS cl lk (tDrop te) (fun Γ => (x Γ).map fun p => .nx p.2) := by
  intro Γ o e σ M H ok D q
  obtain ⟨⟨r, Γ1⟩, e1, e⟩ := map_some' e
  cases e
  exact h Γ r Γ1 e1 σ M H ok _ fun v M1 H1 s1 n1 v1 => q σ M1 H1 s1
theorem snd_ret {te : TE} {x : Env → Option (R × Env)} (h : SndE cl lk te x) : SndS cl lk (tRet te) (fun Γ => (x Γ).bind fun p => retR lk p.1 p.2) := by
  intro Γ o e σ M H ok D q
  obtain ⟨⟨r, Γ1⟩, e1, e⟩ := bind_some' e
  refine h Γ r Γ1 e1 σ M H ok _ fun v M1 H1 s1 n1 v1 => ?_
  cases r with
  | sh d => cases e; exact q v σ M1 H1 s1 v1
  | ow d => cases e; exact q v σ M1 H1 s1 (v1.imp fun a h => .inl h)
  | bo i =>
    obtain ⟨⟨d, b⟩, e2, e⟩ := bind_some' (show ((Γ1.at i).bind fun p => if p.2 then (if i ∈ lk then none else some (.rt p.1 true (Γ1.set i none))) else some (.rt p.1 false Γ1)) = some o from e)
    obtain ⟨ev, _⟩ := v1
    obtain ⟨w, ew, sl⟩ := s1.ok.slot i d b e2
    rw [ev] at ew
    cases ew
    cases b with
    | false =>
      cases e
      exact q v σ M1 H1 s1 sl
    | true =>
      have e' : (if i ∈ lk then none else some (Out.rt d true (Γ1.set i none))) = some o := e
      by_cases hi : i ∈ lk
      · rw [if_pos hi] at e'; cases e'
      · rw [if_neg hi] at e'
        cases e'
        have li := at_lt e2
        obtain ⟨a, ob, rfl, m, hh, t⟩ := (show ∃ a o, v = V.ref a ∧ M1 a = none ∧ H1 a = some o ∧ Top cl M1 d o from sl)
        have go : ∀ j x, Env.at (Γ1.set i none) j = some x → j ≠ i ∧ Γ1.at j = some x := fun j x z => by
          by_cases w : i = j
          · subst w; rw [at_set_same li] at z; cases z
          · rw [at_set_ne w] at z; exact ⟨Ne.symm w, z⟩
        have s2 : Stp cl lk (isOwn Γ1 σ) Γ1 σ M1 H1 (Γ1.set i none) σ M1 H1 := Stp.mk' s1.ok s1.ok.ownN ⟨by rw [List.length_set]; exact s1.ok.len, s1.ok.sub, fun j d2 b2 z => s1.ok.slot j d2 b2 (go j _ z).2, fun j k d1 d2 x h1 h2 => s1.ok.sep j k d1 d2 x (go j _ h1).2 (go k _ h2).2⟩ Fr.refl (fun x ⟨j, d2, h1, h2⟩ => .inl ⟨j, d2, (go j _ h1).2, h2⟩) (fun _ _ => rfl) (fun j d2 hj z => ⟨d2, by rw [at_set_ne (fun w => hi (by rw [w]; exact hj))]; exact z⟩)
        refine q _ σ M1 H1 (s1.trans s2 s1.own) ⟨a, ob, rfl, m, hh, t, (s1.free ⟨i, d, hi, e2, ev⟩), fun ⟨j, d2, h1, h2⟩ => ?_⟩
        obtain ⟨nj, h1⟩ := go j _ h1
        exact nj (s1.ok.sep j i _ _ a h1 e2 h2 ev)
theorem snd_set {i : Nat} {te : TE} {x : Env → Option (R × Env)} (h : SndE cl lk te x) : SndS cl lk (tAsg te (gName i)) (fun Γ => (x Γ).bind fun p => (setR lk i p.1 p.2).map .nx) := by
  intro Γ o e σ M H ok D q
  obtain ⟨⟨r, Γ1⟩, e1, e⟩ := bind_some' e
  obtain ⟨Γ2, e2, e⟩ := map_some' e
  subst e
  refine h Γ r Γ1 e1 σ M H ok _ fun v M1 H1 s1 n1 v1 => ?_
  unfold setR at e2
  obtain ⟨⟨c1, c2⟩, e2⟩ := ite_some e2
  show D.nx (σ.set i (some v)) H1
  cases r with
  | sh d => cases e2; exact q _ M1 H1 (s1.trans (s1.ok.setSh (lk := lk) c1 c2 v1) s1.own)
  | ow d => cases e2; exact q _ M1 H1 (s1.trans (s1.ok.setOw (lk := lk) ok.fresh c1 c2 v1) fun a z => z.elim (s1.own a) .inr)
  | bo j =>
    obtain ⟨⟨d, Γ3⟩, e3, e2⟩ := map_some' (show ((keepR lk (.bo j) Γ1).map fun p => p.2.set i (some (p.1, false))) = some Γ2 from e2)
    cases e2
    obtain ⟨M2, s2, n2, r2, _⟩ := keep1_post ok s1 n1 v1 e3
    have l3 : i < Γ3.length := by rw [s2.ok.len, ← s1.ok.len]; exact c1
    exact q _ M2 H1 (s2.trans (s2.ok.setSh (lk := lk) l3 c2 r2) s2.own)
theorem snd_setk {i : Nat} {te : TE} {x : Env → Option (R × Env)} (h : SndE cl lk te x) : SndS cl lk (tAsg te (gName i)) (fun Γ => (x Γ).bind fun p => (setkR lk i p.1 p.2).map .nx) := by
  intro Γ o e σ M H ok D q
  obtain ⟨⟨r, Γ1⟩, e1, e⟩ := bind_some' e
  obtain ⟨Γ2, e2, e⟩ := map_some' e
  subst e
  refine h Γ r Γ1 e1 σ M H ok _ fun v M1 H1 s1 n1 v1 => ?_
  unfold setkR at e2
  obtain ⟨⟨c1, c2⟩, e2⟩ := ite_some e2
  show D.nx (σ.set i (some v)) H1
  obtain ⟨⟨d, Γ3⟩, e3, e2⟩ := map_some' e2
  cases e2
  obtain ⟨M2, s2, n2, r2, _⟩ := keep1_post ok s1 n1 v1 e3
  have l3 : i < Γ3.length := by rw [s2.ok.len, ← s1.ok.len]; exact c1
  exact q _ M2 H1 (s2.trans (s2.ok.setSh (lk := lk) l3 c2 r2) s2.own)
theorem snd_unp {tg : List Nat} {te : TE} {x : Env → Option (R × Env)} (h : SndE cl lk te x) : SndS cl lk (tAsg te (gTup cl.K tg.length (gNames tg))) (fun Γ => (x Γ).bind fun p => (keepR lk p.1 p.2).bind fun q => if tg.any (lk.contains ·) then none else match q.1.un with
    | .tup ds => (setNs tg ds q.2).map .nx
    | _ => none) := by
  intro Γ o e σ M H ok D q
  obtain ⟨⟨r, Γ1⟩, e1, e⟩ := bind_some' e
  obtain ⟨⟨d, Γ2⟩, e2, e⟩ := bind_some' e
  cases hl : tg.any (lk.contains ·) with
  | true => rw [hl] at e; cases e
  | false =>
    rw [hl] at e
    refine h Γ r Γ1 e1 σ M H ok _ fun v M1 H1 s1 n1 v1 => ?_
    obtain ⟨M2, s2, n2, r2, _⟩ := keep1_post ok s1 n1 v1 e2
    have r2 := r2.un
    simp only at e
    generalize d.un = d at e r2
    cases d <;> try (cases e; done)
    obtain ⟨Γ3, e3, e⟩ := map_some' (show (setNs tg _ Γ2).map Out.nx = some o from e)
    subst e
    exact gTup_ok s2.ok e3 hl r2 _ fun σ' s3 _ _ _ => q σ' M2 H1 (s2.trans s3 s2.own)
theorem snd_par {tg : List Nat} {ta : TA} {x : Env → Option (List R × Env)} (h : SndA cl lk ta x) : SndS cl lk (tParN tg ta) (fun Γ => (x Γ).bind fun p => (keepRs lk p.1 p.2).bind fun q => if tg.any (lk.contains ·) then none else if tg.length = 2 ∨ tg.length = 3 then (setNs tg q.1 q.2).map .nx else none) := by
  intro Γ o e σ M H ok D q
  obtain ⟨⟨rs, Γ1⟩, e1, e⟩ := bind_some' e
  obtain ⟨⟨ds, Γ2⟩, e2, e⟩ := bind_some' e
  cases hl : tg.any (lk.contains ·) with
  | true => rw [hl] at e; cases e
  | false =>
    rw [hl] at e
    obtain ⟨c, e⟩ := ite_some (show (if tg.length = 2 ∨ tg.length = 3 then (setNs tg ds Γ2).map Out.nx else none) = some o from e)
    obtain ⟨Γ3, e3, e⟩ := map_some' e
    subst e
    have main : ∀ vs M1 H1, Stp cl lk (isOwn Γ σ) Γ σ M H Γ1 σ M1 H1 → Names' Γ Γ1 → RVs cl Γ1 σ M1 H1 (fun a => H a = none) rs vs → gNames tg vs σ H1 fun σ' H' => D.nx σ' H' := fun vs M1 H1 s1 n1 r1 => by
      obtain ⟨M2, s2, n2, r2, _⟩ := keep_post ok s1 n1 r1 e2
      exact gNames_ok (Stp.rfl' s2.ok) (fun a h => h) e3 hl r2 _ fun σ' s _ _ _ _ => q σ' M2 H1 (s2.trans s s2.own)
    match tg, c with
    | [i, j], _ =>
      refine h Γ rs Γ1 e1 σ M H ok _ fun vs M1 H1 s1 n1 r1 => ?_
      obtain ⟨v, us, rfl, w, us2, rfl, rfl, z⟩ := main vs M1 H1 s1 n1 r1
      exact ⟨v, w, rfl, z⟩
    | [i, j, l], _ =>
      refine h Γ rs Γ1 e1 σ M H ok _ fun vs M1 H1 s1 n1 r1 => ?_
      obtain ⟨v, us, rfl, w, us2, rfl, x, us3, rfl, rfl, z⟩ := main vs M1 H1 s1 n1 r1
      exact ⟨v, w, x, rfl, z⟩
    | [], c => simp at c
    | [_], c => simp at c
    | _ :: _ :: _ :: _ :: _, c => simp at c
theorem set_ok {M H : Hp} {d d' k y : D} {a : Addr} {ob : HO} {vk vy : V} {Q : Hp → Prop} (s : Same M H) (hh : H a = some ob) (t : Top cl M d ob) (rk : Rep cl H k vk) (ry : Rep cl M y vy) (h : setD d k y = some d') (q : ∀ o', Top cl M d' o' → Q (upd H a o')) : rSetA (.ref a) vk vy H Q := by
  cases d <;> try (cases h; done)
  · cases k <;> try (cases h; done)
    obtain ⟨vs, rfl, r⟩ := t
    obtain ⟨j, e1, e2⟩ := map_some' h
    subst e2
    cases rk
    exact .inl ⟨a, vs, _, j, rfl, rfl, hh, by rw [← r.length]; exact e1, q _ ⟨_, rfl, r.set ry j⟩⟩
  · obtain ⟨kvs, rfl, rfl, r⟩ := t
    obtain ⟨kk, e1, e⟩ := bind_some' (show (keyOf k).bind _ = _ from h)
    obtain ⟨c, e⟩ := ite_some e
    cases e
    cases keyOf_rep rk e1
    obtain ⟨p1, p2⟩ := putD_ok (k := kk) r ry
    refine .inr ⟨a, _, rfl, DPut.k hh (by rw [List.length_map] at c; exact c), q _ ⟨_, rfl, p1, p2⟩⟩
theorem snd_setI {to ti te : TE} {x y z : Env → Option (R × Env)} (he : SndE cl lk te x) (ho : SndE cl lk to y) (hi : SndE cl lk ti z) :
    SndS cl lk (tAsg te (gSub to ti rSetA)) (fun Γ => (x Γ).bind fun p => (keepR lk p.1 p.2).bind fun q => (y q.2).bind fun x => (z x.2).bind fun y => match x.1 with
    | .bo j => (match y.2.at j with
      | some (d, true) => (getR y.2 y.1).bind fun k => (setD d k q.1).map fun d' => .nx (y.2.set j (some (d', true)))
      | _ => none)
    | _ => none) := by
  intro Γ o e σ M H ok D q
  obtain ⟨⟨r, Γ1⟩, e1, e⟩ := bind_some' e
  obtain ⟨⟨yd, Γ2⟩, e2, e⟩ := bind_some' e
  obtain ⟨⟨ro, Γ3⟩, e3, e⟩ := bind_some' e
  obtain ⟨⟨ri, Γ4⟩, e4, e⟩ := bind_some' e
  cases ro with
  | sh d => cases e
  | ow d => cases e
  | bo j =>
    have e' : (match Γ4.at j with | some (d, true) => (getR Γ4 ri).bind fun k => (setD d k yd).map fun d' => Out.nx (Γ4.set j (some (d', true))) | _ => none) = some o := e
    cases e5 : Γ4.at j with
    | none => rw [e5] at e'; cases e'
    | some w =>
      obtain ⟨d, b⟩ := w
      rw [e5] at e'
      cases b with
      | false => cases e'
      | true =>
        obtain ⟨k, e6, e'⟩ := bind_some' (show ((getR Γ4 ri).bind fun k => (setD d k yd).map fun d' => Out.nx (Γ4.set j (some (d', true)))) = some o from e')
        obtain ⟨d', e7, e'⟩ := map_some' e'
        subst e'
        refine he Γ r Γ1 e1 σ M H ok _ fun v M1 H1 s1 n1 v1 => ?_
        obtain ⟨M2, s2, n2, r2, _⟩ := keep1_post ok s1 n1 v1 e2
        refine ho Γ2 _ Γ3 e3 σ M2 H1 s2.ok _ fun vo M3 H3 s3 n3 v3 => ?_
        refine hi Γ3 ri Γ4 e4 σ M3 H3 s3.ok _ fun vi M4 H4 s4 n4 v4 => ?_
        have s23 := s2.trans s3 s2.own
        have s24 := s23.trans s4 s23.own
        obtain ⟨ev, _⟩ := v3
        obtain ⟨w, ew, sl⟩ := s4.ok.slot j d true e5
        rw [ev] at ew
        cases ew
        obtain ⟨a, ob, rfl, m, hh, t⟩ := (show ∃ a o, vo = V.ref a ∧ M4 a = none ∧ H4 a = some o ∧ Top cl M4 d o from sl)
        refine set_ok s4.ok.sub hh t (v4.reph s4.ok e6) (r2.mono (s3.fr.subM.trans s4.fr.subM)) e7 fun o' t' => ?_
        obtain ⟨s5, _⟩ := s4.ok.put (lk := lk) e5 ev t'
        exact q σ M4 _ (s24.trans s5 s24.own)
theorem snd_setF {i : Nat} {cs : List Nat} {f : Str} {cc : Nat → Addr} (hcc : cc = cl.c) {te : TE} {x : Env → Option (R × Env)} (he : SndE cl lk te x) :
    SndS cl lk (sFldC cc cs (tVar i) te f) (fun Γ => (x Γ).bind fun p => (keepR lk p.1 p.2).bind fun q => match q.2.at i with
    | some (d, true) => (setFD cs f q.1 d).map fun d' => .nx (q.2.set i (some (d', true)))
    | _ => none) := by
  subst hcc
  intro Γ o e σ M H ok D q
  obtain ⟨⟨r, Γ1⟩, e1, e⟩ := bind_some' e
  obtain ⟨⟨yd, Γ2⟩, e2, e⟩ := bind_some' e
  have e' : (match Γ2.at i with | some (d, true) => (setFD cs f yd d).map fun d' => Out.nx (Γ2.set i (some (d', true))) | _ => none) = some o := e
  cases e5 : Γ2.at i with
  | none => rw [e5] at e'; cases e'
  | some w =>
    obtain ⟨d, b⟩ := w
    rw [e5] at e'
    cases b with
    | false => cases e'
    | true =>
      obtain ⟨d', e7, e'⟩ := map_some' (show ((setFD cs f yd d).map fun d' => Out.nx (Γ2.set i (some (d', true)))) = some o from e')
      subst e'
      refine he Γ r Γ1 e1 σ M H ok _ fun v M1 H1 s1 n1 v1 => ?_
      obtain ⟨M2, s2, n2, r2, _⟩ := keep1_post ok s1 n1 v1 e2
      obtain ⟨w, ew, sl⟩ := s2.ok.slot i d true e5
      obtain ⟨a, ob, rfl, m, hh, t⟩ := (show ∃ a o, w = V.ref a ∧ M2 a = none ∧ H1 a = some o ∧ Top cl M2 d o from sl)
      obtain ⟨c, dx, fs, rfl, hc, hl, t'⟩ := setFD_ok t r2 e7
      refine ⟨.ref a, ew, a, c, dx, fs, rfl, hh, hc, hl, ?_⟩
      obtain ⟨s5, _⟩ := s2.ok.put (lk := lk) e5 ew t'
      exact q σ M2 _ (s2.trans s5 s2.own)
theorem snd_augF {i : Nat} {cs : List Nat} {f : Str} {cc : Nat → Addr} (hcc : cc = cl.c) {te : TE} {x : Env → Option (R × Env)} (he : SndE cl lk te x) :
    SndS cl lk (sFldAugC cc cs (tVar i) te f) (fun Γ => match Γ.at i with
    | some (d0, true) => (fldD cs f d0).bind fun z0 => (toI z0).bind fun k => (x Γ).bind fun p => (getR p.2 p.1).bind fun z => (toI z).bind fun y => match p.2.at i with
      | some (d, true) => (setFD cs f (.int (k + y)) d).map fun d' => .nx (p.2.set i (some (d', true)))
      | _ => none
    | _ => none) := by
  subst hcc
  intro Γ o e σ M H ok D q
  replace e : (match Γ.at i with
    | some (d0, true) => (fldD cs f d0).bind fun z0 => (toI z0).bind fun k => (x Γ).bind fun p => (getR p.2 p.1).bind fun z => (toI z).bind fun y => match p.2.at i with
      | some (d, true) => (setFD cs f (.int (k + y)) d).map fun d' => Out.nx (p.2.set i (some (d', true)))
      | _ => none
    | _ => none) = some o := e
  cases e0 : Γ.at i with
  | none => rw [e0] at e; cases e
  | some w0 =>
    obtain ⟨d0, b0⟩ := w0
    rw [e0] at e
    cases b0 with
    | false => cases e
    | true =>
      obtain ⟨z0, f1, e⟩ := bind_some' (show ((fldD cs f d0).bind fun z0 => (toI z0).bind fun k => (x Γ).bind fun p => (getR p.2 p.1).bind fun z => (toI z).bind fun y => match p.2.at i with
        | some (d, true) => (setFD cs f (.int (k + y)) d).map fun d' => Out.nx (p.2.set i (some (d', true)))
        | _ => none) = some o from e)
      obtain ⟨k, f2, e⟩ := bind_some' e
      obtain ⟨⟨r, Γ1⟩, e1, e⟩ := bind_some' e
      obtain ⟨z, e2, e⟩ := bind_some' e
      obtain ⟨y, e3, e⟩ := bind_some' e
      have e' : (match Γ1.at i with | some (d, true) => (setFD cs f (.int (k + y)) d).map fun d' => Out.nx (Γ1.set i (some (d', true))) | _ => none) = some o := e
      cases e5 : Γ1.at i with
      | none => rw [e5] at e'; cases e'
      | some w =>
        obtain ⟨d, b⟩ := w
        rw [e5] at e'
        cases b with
        | false => cases e'
        | true =>
          obtain ⟨d', e7, e'⟩ := map_some' (show ((setFD cs f (.int (k + y)) d).map fun d' => Out.nx (Γ1.set i (some (d', true)))) = some o from e')
          subst e'
          obtain ⟨w0, ew0, sl0⟩ := ok.slot i d0 true e0
          obtain ⟨a0, ob0, rfl, m0, hh0, t0⟩ := (show ∃ a o, w0 = V.ref a ∧ M a = none ∧ H a = some o ∧ Top cl M d0 o from sl0)
          cases d0 <;> try (cases f1; done)
          rename_i c0 ns0 xs0
          obtain ⟨dx0, fs0, rfl, rfl, r0⟩ := t0
          obtain ⟨hc0, f1⟩ := ite_some (show (if c0 ∈ cs then valN (fs0.map (·.1)) xs0 f else none) = some z0 from f1)
          obtain ⟨v0, l0, rv0⟩ := valN_ok r0 f1
          refine ⟨.ref a0, ew0, a0, c0, dx0, fs0, v0, rfl, hh0, hc0, l0, ?_⟩
          refine he Γ r Γ1 e1 σ M H ok _ fun v M1 H1 s1 n1 v1 => ?_
          obtain ⟨w, ew, sl⟩ := s1.ok.slot i d true e5
          rw [ew0] at ew
          cases ew
          obtain ⟨a, ob, ea, m, hh, t⟩ := (show ∃ a o, V.ref a0 = V.ref a ∧ M1 a = none ∧ H1 a = some o ∧ Top cl M1 d o from sl)
          cases ea
          cases z0 <;> try (cases f2; done)
          cases f2
          cases z <;> try (cases e3; done)
          cases e3
          cases (show v0 = .int k from rv0)
          have hv : v = .int y := by
            have := v1.get s1.ok e2
            exact r1_int this
          subst hv
          obtain ⟨c, dx, fs, rfl, hc, hl, t'⟩ := setFD_ok (v := .int (k + y)) t (show Rep cl M1 (.int (k + y)) (.int (k + y)) from rfl) e7
          refine ⟨k, y, rfl, rfl, c, dx, fs, hh, hc, hl, ?_⟩
          obtain ⟨s5, _⟩ := s1.ok.put (lk := lk) e5 ew0 t'
          exact q σ M1 _ (s1.trans s5 s1.own)
theorem snd_aug {i : Nat} {o : BOp} {te : TE} {x : Env → Option (R × Env)} (he : SndE cl lk te x) : SndS cl lk (tAug i te (ipB o)) (fun Γ => (x Γ).bind fun p => if i ∈ lk ∨ ¬ i < p.2.length then none else (match Γ.at i with
    | some (.int x, false) => (getR p.2 p.1).bind fun d => (toI d).bind fun y => (match o with
      | .add => some (.nx (p.2.set i (some (.int (x + y), false))))
      | .sub => some (.nx (p.2.set i (some (.int (x - y), false))))
      | _ => none)
    | _ => none)) := by
  intro Γ ou e σ M H ok D q
  obtain ⟨⟨r, Γ1⟩, e1, e⟩ := bind_some' e
  by_cases c : i ∈ lk ∨ ¬ i < Γ1.length
  · simp only [c, if_true] at e; cases e
  · simp only [c, if_false] at e
    have c1 : i ∉ lk := fun z => c (.inl z)
    have c2 : i < Γ1.length := Classical.byContradiction fun z => c (.inr z)
    cases e5 : Γ.at i with
    | none => rw [e5] at e; cases e
    | some w =>
      obtain ⟨d, b⟩ := w
      rw [e5] at e
      cases d <;> cases b <;> try (cases e; done)
      rename_i xi
      obtain ⟨dy, e2, e⟩ := bind_some' e
      obtain ⟨y, e3, e⟩ := bind_some' e
      obtain ⟨v, ev, sl⟩ := ok.slot i _ _ e5
      cases (show v = .int xi from sl)
      refine ⟨.int xi, ev, ?_⟩
      refine he Γ r Γ1 e1 σ M H ok _ fun w M1 H1 s1 n1 v1 => ?_
      have k := v1.reph s1.ok e2
      cases dy <;> cases e3
      cases k
      cases o <;> try (cases e; done)
      · cases e
        exact ⟨xi, y, rfl, rfl, q _ M1 H1 (s1.trans (s1.ok.setSh (lk := lk) c2 c1 (show Rep cl M1 (.int (xi + y)) (.int (xi + y)) from rfl)) s1.own)⟩
      · cases e
        exact ⟨xi, y, rfl, rfl, q _ M1 H1 (s1.trans (s1.ok.setSh (lk := lk) c2 c1 (show Rep cl M1 (.int (xi - y)) (.int (xi - y)) from rfl)) s1.own)⟩
theorem snd_if {tc : TT} {t u : TS} {c : Env → Option (Bool × Env)} {x y : Env → Option Out} (hc : SndT cl lk tc c) (h1 : SndS cl lk t x) (h2 : SndS cl lk u y) : SndS cl lk (tIfS tc t u) (fun Γ => (c Γ).bind fun p => if p.1 then x p.2 else y p.2) := by
  intro Γ o e σ M H ok D q
  obtain ⟨⟨b, Γ1⟩, e1, e⟩ := bind_some' e
  refine hc Γ b Γ1 e1 σ M H ok _ fun M1 H1 s1 n1 => ?_
  cases b with
  | true => exact h1 Γ1 o e σ M1 H1 s1.ok D (q.after s1)
  | false => exact h2 Γ1 o e σ M1 H1 s1.ok D (q.after s1)
theorem for_core {tg : List Nat} {tb : TS} {y : Env → Option Out} (hb : SndS cl lk tb y) {Γ1 : Env} {σ : St} {M1 H1 : Hp} {J : It} {ds : List D} {P : Hp → Prop} {D : Ends} {o : Out} (ok1 : OkS cl Γ1 σ M1 H1) (wk : WalksP cl M1 P J ds) (hP : ∀ M' H', Fr (isOwn Γ1 σ) M1 H1 M' H' → P H')
    (e : forL (bindT lk tg) y ds Γ1 = some o) (q1 : PostS cl lk Γ1 σ M1 H1 D o) : ∃ W : Nat → Nat → St → Hp → Prop, (∃ m, W 0 m σ H1) ∧ ∀ i m σ H, W i m σ H →
    (J.stop i H ∧ D.nx σ H) ∨ (J.go i H ∧ ∃ N : St → Hp → Prop, (∀ σ' H', N σ' H' → ∃ m', m' < m ∧ W (i + 1) m' σ' H') ∧ ∀ x H', J.yld i H x H' → trG cl.K tg x σ H' fun σ2 H2 => tb { D with nx := N, ct := N, bk := D.nx } σ2 H2) := by
  let Inv : Nat → St → Hp → Prop := fun i σi Hi => i ≤ ds.length ∧ ∃ Γi Mi, forL (bindT lk tg) y (ds.drop i) Γi = some o ∧ Stp cl lk (isOwn Γ1 σ) Γ1 σ M1 H1 Γi σi Mi Hi
  refine ⟨fun i m σi Hi => m = ds.length - i ∧ Inv i σi Hi, ⟨ds.length, rfl, Nat.zero_le _, Γ1, M1, e, Stp.rfl' ok1⟩, ?_⟩
  rintro i m σi Hi ⟨rfl, hil, Γi, Mi, k1, S⟩
  by_cases hlt : i < ds.length
  · obtain ⟨d, hd⟩ : ∃ d, ds[i]? = some d := ⟨ds[i], List.getElem?_eq_getElem hlt⟩
    have hdrop : ds.drop i = d :: ds.drop (i + 1) := by
      rw [List.drop_eq_getElem_cons hlt]
      have := List.getElem?_eq_getElem hlt
      rw [hd] at this
      cases this
      rfl
    rw [hdrop] at k1
    obtain ⟨Γ2, g1, k1⟩ := bind_some' (show ((bindT lk tg d Γi).bind fun Γ1 => (y Γ1).bind fun o => match o with
      | .nx Γ2 => forL (bindT lk tg) y (ds.drop (i + 1)) Γ2
      | .ct Γ2 => forL (bindT lk tg) y (ds.drop (i + 1)) Γ2
      | .bk Γ2 => some (.nx Γ2)
      | .rt d b Γ2 => some (.rt d b Γ2)) = some o from k1)
    obtain ⟨o2, g2, k1⟩ := bind_some' k1
    obtain ⟨go, step⟩ := wk.1 i d Mi Hi S.fr.subM S.ok.sub (hP _ _ S.fr) hd
    refine .inr ⟨go, Inv (i + 1), fun σ' H' h' => ⟨ds.length - (i + 1), by omega, rfl, h'⟩, fun xv H2 hy => ?_⟩
    obtain ⟨M2, ext, rx⟩ := step xv H2 hy
    have S2 := S.trans (Stp.ext (lk := lk) S.ok ext fun a z => z) S.own
    refine bind_ok S2.ok g1 rx _ fun σ2 s3 _ _ _ => ?_
    have S3 := S2.trans s3 S2.own
    refine hb Γ2 o2 g2 σ2 M2 H2 S3.ok _ ?_
    have q3 := q1.after S3
    cases o2 with
    | nx Γ3 => exact fun σ' M' H' s4 => ⟨by omega, Γ3, M', k1, S3.trans s4 S3.own⟩
    | ct Γ3 => exact fun σ' M' H' s4 => ⟨by omega, Γ3, M', k1, S3.trans s4 S3.own⟩
    | bk Γ3 => cases k1; exact q3
    | rt d b Γ3 => cases k1; exact q3
  · have hi' : i = ds.length := by omega
    subst hi'
    rw [List.drop_length] at k1
    cases k1
    exact .inl ⟨wk.2 Hi (S.fr.subM.trans S.ok.sub) (hP _ _ S.fr), q1 σi Mi Hi S⟩
theorem snd_for {tg : List Nat} {wi : TI} {tb : TS} {x : Env → Option (List D × Env)} {y : Env → Option Out} (hi : SndI cl lk wi x) (hb : SndS cl lk tb y) : SndS cl lk (tFor wi (trG cl.K tg) tb) (fun Γ => (x Γ).bind fun p => forL (bindT lk tg) y p.1 p.2) := by
  intro Γ o e σ M H ok D q
  obtain ⟨⟨ds, Γ1⟩, e1, e⟩ := bind_some' e
  refine hi Γ ds Γ1 e1 σ M H ok _ fun J M1 H1 s1 n1 wk => ?_
  exact for_core hb s1.ok wk.p (fun _ _ _ => trivial) e (q.after s1)
theorem Stp.less {O : Addr → Prop} {lk' : List Nat} {Γ Γ' : Env} {σ σ' : St} {M H M' H' : Hp} (s : Stp cl lk' O Γ σ M H Γ' σ' M' H') (h : ∀ i, i ∈ lk → i ∈ lk') : Stp cl lk O Γ σ M H Γ' σ' M' H' := ⟨s.ok, s.fr, s.own, fun i z => s.lks i (h i z), fun i d z => s.lkg i d (h i z)⟩
/-- a name's own list, walked: it stands still meanwhile -/
theorem snd_forV {tg : List Nat} {i : Nat} {tb : TS} {y : Env → Option Out} (hb : SndS cl (i :: lk) tb y) : SndS cl lk (tFor (iList cl.K (tVar i)) (trG cl.K tg) tb) (fun Γ => match Γ.at i with
    | some (.lst ds, true) => (forL (bindT (i :: lk) tg) y ds (Γ.set i none)).map (Out.put i (some (.lst ds, true)))
    | _ => none) := by
  intro Γ o e σ M H ok D q
  cases e0 : Γ.at i with
  | none => simp only [e0] at e; cases e
  | some y =>
    obtain ⟨d, b⟩ := y
    simp only [e0] at e
    cases d <;> cases b <;> try (cases e; done)
    obtain ⟨o1, e1, e⟩ := map_some' e
    subst e
    obtain ⟨v, ev, sl⟩ := ok.slot i _ _ e0
    obtain ⟨a, ob, rfl, m, hh, t⟩ := (show ∃ a o, v = V.ref a ∧ M a = none ∧ H a = some o ∧ Top cl M _ o from sl)
    obtain ⟨us, rfl, hr⟩ := t
    obtain ⟨ok1, ow⟩ := ok.dropAt i
    have nA : ¬ isOwn (Γ.set i none) σ a := fun z => by
      obtain ⟨j, d, nj, h1, h2⟩ := ow a z
      exact nj (ok.sep j i _ _ a h1 e0 h2 ev)
    refine ⟨_, ev, a, rfl, ⟨us, SqL.of hh⟩, ?_⟩
    refine for_core hb ok1 (walksP_list hr) (fun M' H' f => f.keep a _ hh nA) e1 ?_
    have step : ∀ {Γ' : Env} {σ' : St} {M' H' : Hp}, Stp cl (i :: lk) (isOwn (Γ.set i none) σ) (Γ.set i none) σ M H Γ' σ' M' H' → Stp cl lk (isOwn Γ σ) Γ σ M H (Γ'.set i (some (.lst _, true))) σ' M' H' ∧ H' a = some (.lst us) ∧ ∀ b, isOwn (Γ'.set i (some (.lst _, true))) σ' b → b = a ∨ isOwn Γ' σ' b := fun {Γ' σ' M' H'} S =>
      Stp.restore ok e0 ev m hh hr (S.lks i List.mem_cons_self) ((S.less fun j hj => List.mem_cons_of_mem _ hj).imp fun b z => .inl z)
    cases o1 with
    | nx Γ' => exact fun σ' M' H' S => q σ' M' H' (step S).1
    | bk Γ' => exact fun σ' M' H' S => q σ' M' H' (step S).1
    | ct Γ' => exact fun σ' M' H' S => q σ' M' H' (step S).1
    | rt d b Γ' =>
      refine fun v σ' M' H' S r => q v σ' M' H' (step S).1 ?_
      cases b with
      | false => exact r
      | true =>
        obtain ⟨p, o, e, m', q', t', y, z⟩ := r
        have y' : H p = none ∨ freeOwn lk Γ σ p := y.imp id fun ⟨j, d, h1, h2, h3⟩ => by
          have nj : i ≠ j := fun w => h1 (by rw [w]; exact List.mem_cons_self)
          rw [at_set_ne nj] at h2
          exact ⟨j, d, fun w => h1 (List.mem_cons_of_mem _ w), h2, h3⟩
        refine ⟨p, o, e, m', q', t', y', fun w => ((step S).2.2 p w).elim (fun w => ?_) z⟩
        rw [w] at y
        rcases y with y | ⟨j, d, h1, h2, h3⟩
        · rw [hh] at y; cases y
        · have nj : i ≠ j := fun w => h1 (by rw [w]; exact List.mem_cons_self)
          exact nA ⟨j, d, h2, h3⟩
/-- a name's dict, walked -/
theorem snd_forW {w : Wk} {tg : List Nat} {i : Nat} {tb : TS} {y : Env → Option Out} (hb : SndS cl lk tb y) : SndS cl lk (tWalkS (tFor (iWk w (tVar i)) (trG cl.K tg) tb)) (fun Γ => (dctAt Γ i).bind fun kd => forL (bindT lk tg) y (wkD w kd.1 kd.2) Γ) := by
  intro Γ o e σ M H ok D q
  obtain ⟨⟨ks, ds⟩, e0, e⟩ := bind_some' e
  obtain ⟨a, kvs, ev, rd, ek, r⟩ := dctAt_ok ok e0
  subst ek
  obtain ⟨u, hu, k⟩ := Dk.of rd
  have hH := ok.sub a u hu
  have nOwn : ¬ isOwn Γ σ a := fun ⟨j, d, h1, h2⟩ => by
    obtain ⟨v, e1, s⟩ := ok.slot j d true h1
    obtain ⟨b, o, rfl, m, _⟩ := (show ∃ a o, v = V.ref a ∧ M a = none ∧ H a = some o ∧ Top cl M d o from s)
    rw [h2] at e1
    cases e1
    rw [hu] at m
    cases m
  rcases k with rfl | ⟨od, rfl⟩
  · refine .inl ⟨a, _, hH, trivial, fun od => ?_⟩
    have k : Dk kvs (.dK kvs) := .inl rfl
    have k' : Dk kvs (.frz od (.dK kvs)) := .inr ⟨od, rfl⟩
    have ok' := ok.swp hu k k'
    have r' := r.swp hu k k'
    obtain ⟨J, hJ, wk⟩ := walksW (o := od) (d := a) r' w
    refine hJ (td := tVar i) (show ∃ v, σ[i]? = some (some v) ∧ _ from ⟨_, ev, rfl, upd_same, ?_⟩) (fun f g h ⟨v, e, x⟩ => ⟨v, e, h _ _ x⟩)
    refine for_core (D := ⟨fun σ' H' => H' a = some (.frz od (.dK kvs)) ∧ D.nx σ' (upd H' a (.dK kvs)), fun v H' => H' a = some (.frz od (.dK kvs)) ∧ D.rt v (upd H' a (.dK kvs)), fun σ' H' => H' a = some (.frz od (.dK kvs)) ∧ D.bk σ' (upd H' a (.dK kvs)), fun σ' H' => H' a = some (.frz od (.dK kvs)) ∧ D.ct σ' (upd H' a (.dK kvs))⟩) hb ok' wk (fun M' H' f => f.keep a _ upd_same nOwn) e ?_
    cases o with
    | nx Γ' => exact fun σ' M' H' S => by obtain ⟨h2, _, S2⟩ := Stp.unlock hu hH k k' nOwn S; exact ⟨h2, q σ' _ _ S2⟩
    | bk Γ' => exact fun σ' M' H' S => by obtain ⟨h2, _, S2⟩ := Stp.unlock hu hH k k' nOwn S; exact ⟨h2, q σ' _ _ S2⟩
    | ct Γ' => exact fun σ' M' H' S => by obtain ⟨h2, _, S2⟩ := Stp.unlock hu hH k k' nOwn S; exact ⟨h2, q σ' _ _ S2⟩
    | rt d b Γ' =>
      refine fun v σ' M' H' S rv => ?_
      obtain ⟨h2, m2, S2⟩ := Stp.unlock hu hH k k' nOwn S
      refine ⟨h2, q v σ' _ _ S2 ?_⟩
      cases b with
      | false => exact Rep.swp m2 k' k (show Rep cl M' d v from rv)
      | true =>
        obtain ⟨p, o, e, m', q', t', y, z⟩ := rv
        have np : p ≠ a := fun w => by rw [w, m2] at m'; cases m'
        refine ⟨p, o, e, by rw [upd_ne np]; exact m', by rw [upd_ne np]; exact q', t'.swp m2 k' k, ?_, z⟩
        rw [upd_ne np] at y
        exact y
  · refine .inr ?_
    obtain ⟨J, hJ, wk⟩ := walksW (o := od) (d := a) r w
    refine hJ (td := tVar i) (show ∃ v, σ[i]? = some (some v) ∧ _ from ⟨_, ev, rfl, hH, ?_⟩) (fun f g h ⟨v, e, x⟩ => ⟨v, e, h _ _ x⟩)
    exact for_core hb ok wk (fun M' H' f => f.keep a _ hH nOwn) e q
theorem snd_whl {tc : TT} {tb : TS} {c : Env → Option (Bool × Env)} {y : Env → Option Out} (n : Nat) (hc : SndT cl lk tc c) (hb : SndS cl lk tb y) : SndS cl lk (tWhile tc tb) (fun Γ => whlL c y n Γ) := by
  intro Γ o e σ M H ok D q
  refine ⟨fun m σi Hi => ∃ Γi Mi, whlL c y m Γi = some o ∧ Stp cl lk (isOwn Γ σ) Γ σ M H Γi σi Mi Hi, ⟨n, Γ, M, e, Stp.rfl' ok⟩, ?_⟩
  rintro m σi Hi ⟨Γi, Mi, k, S⟩
  cases m with
  | zero => cases k
  | succ m =>
    obtain ⟨⟨b, Γ1⟩, e1, k⟩ := bind_some' (show ((c Γi).bind fun p => if p.1 then (y p.2).bind fun o => match o with
      | .nx Γ2 => whlL c y m Γ2
      | .ct Γ2 => whlL c y m Γ2
      | .bk Γ2 => some (.nx Γ2)
      | .rt d b Γ2 => some (.rt d b Γ2) else some (.nx p.2)) = some o from k)
    refine hc Γi b Γ1 e1 σi Mi Hi S.ok _ fun M1 H1 s1 n1 => ?_
    have S1 := S.trans s1 S.own
    cases b with
    | false => cases k; exact q σi M1 H1 S1
    | true =>
      obtain ⟨o2, g2, k⟩ := bind_some' (show ((y Γ1).bind fun o => match o with
        | .nx Γ2 => whlL c y m Γ2
        | .ct Γ2 => whlL c y m Γ2
        | .bk Γ2 => some (.nx Γ2)
        | .rt d b Γ2 => some (.rt d b Γ2)) = some o from k)
      rw [if_pos rfl]
      refine ⟨fun σ' H' => ∃ m', m' < m + 1 ∧ ∃ Γi Mi, whlL c y m' Γi = some o ∧ Stp cl lk (isOwn Γ σ) Γ σ M H Γi σ' Mi H', fun _ _ h => h, ?_⟩
      refine hb Γ1 o2 g2 σi M1 H1 S1.ok _ ?_
      have q3 := q.after S1
      cases o2 with
      | nx Γ3 => exact fun σ' M' H' s4 => ⟨m, Nat.lt_succ_self m, Γ3, M', k, S1.trans s4 S1.own⟩
      | ct Γ3 => exact fun σ' M' H' s4 => ⟨m, Nat.lt_succ_self m, Γ3, M', k, S1.trans s4 S1.own⟩
      | bk Γ3 => cases k; exact q3
      | rt d b Γ3 => cases k; exact q3
mutual
theorem Rep.clr {c2 : Ct} (hc : c2.toCt0 = cl.toCt0) {M : Hp} : ∀ {d : D} {v : V}, Rep cl M d v → Rep c2 M d.clr v
  | .nw d, v, r => Rep.clr hc (d := d) r.1
  | .non, v, r => r
  | .bl _, v, r => r
  | .int _, v, r => r
  | .str _, v, r => r
  | .lst _, v, ⟨a, vs, e, m, r⟩ => ⟨a, vs, e, m, Reps.clr hc r⟩
  | .tup _, v, ⟨a, vs, e, m, r⟩ => ⟨a, vs, e, m, Reps.clr hc r⟩
  | .dct _ _, v, ⟨a, vs, e, m, k, r⟩ => ⟨a, vs, e, m, k, Reps.clr hc r⟩
  | .obj _ _ _, v, ⟨a, dx, vs, e, m, k, r⟩ => ⟨a, dx, vs, e, by rw [hc]; exact m, k, Reps.clr hc r⟩
  | .scr _, v, ⟨a, e, m⟩ => ⟨a, e, by rw [hc]; exact m⟩
theorem Reps.clr {c2 : Ct} (hc : c2.toCt0 = cl.toCt0) {M : Hp} : ∀ {ds : List D} {vs : List V}, Reps cl M ds vs → Reps c2 M (clrs ds) vs
  | [], _, r => r
  | _ :: _, _, ⟨v, r, e, a, b⟩ => ⟨v, r, e, Rep.clr hc a, Reps.clr hc b⟩
end
theorem Rep.flat {c2 : Ct} {M M' : Hp} {d : D} {v : V} (h : d.fl.isSome = true) (r : Rep c2 M d v) : Rep cl M' d v := by
  obtain ⟨u, hu⟩ := Option.isSome_iff_exists.mp h
  cases r.fl hu
  exact Rep.of_fl hu
open Classical in
/-- what names hold on their own, shared -/
noncomputable def frzM (Γ : Env) (σ : St) (M H : Hp) : Hp := fun a => if isOwn Γ σ a then H a else M a
theorem frzAll_at {Γ : Env} {i : Nat} {d : D} {b : Bool} (h : (frzAll Γ).at i = some (d, b)) : b = false ∧ (Γ.at i = some (d, false) ∨ ∃ e, d = .nw e ∧ Γ.at i = some (e, true)) := by
  unfold Env.at frzAll at h
  rw [List.getElem?_map] at h
  unfold Env.at
  cases e : Γ[i]? with
  | none => rw [e] at h; cases h
  | some x =>
    rw [e] at h
    cases x with
    | none => cases h
    | some y =>
      obtain ⟨d', b'⟩ := y
      cases b' with
      | true => cases h; exact ⟨rfl, .inr ⟨d', rfl, rfl⟩⟩
      | false => cases h; exact ⟨rfl, .inl rfl⟩
theorem clrE_at {Γ : Env} {i : Nat} {d : D} {b : Bool} (h : (clrE Γ).at i = some (d, b)) : ∃ e, d = e.clr ∧ Γ.at i = some (e, b) := by
  unfold Env.at clrE at h
  rw [List.getElem?_map] at h
  unfold Env.at
  cases e : Γ[i]? with
  | none => rw [e] at h; cases h
  | some x =>
    rw [e] at h
    cases x with
    | none => cases h
    | some y =>
      obtain ⟨d', b'⟩ := y
      cases h
      exact ⟨d', rfl, rfl⟩
theorem snd_scope {ws : List Nat} {t u : TS} {x : List Nat → Env → Option Out} {ok : Env → Env → Bool} (hx : ∀ (c2 : Ct) lk', c2.toCt0 = cl.toCt0 → SndS c2 lk' t (x lk')) (hu : ∀ Γ0 Γ, ok Γ0 Γ = true → SpoOk cl.toCt0 ws u Γ0 Γ) : SndS cl lk (tSeq t u) (scopeS lk ws ok x) := by
  intro Γ o e σ M H k0 D q
  unfold scopeS at e
  obtain ⟨c, e⟩ := ite_some e
  subst c
  obtain ⟨o1, e1, e⟩ := bind_some' e
  let M1 : Hp := frzM Γ σ M H
  have mo : ∀ a, isOwn Γ σ a → M1 a = H a := fun a h => if_pos h
  have mn : ∀ a, ¬ isOwn Γ σ a → M1 a = M a := fun a h => if_neg h
  have sM : Same M M1 := fun a o h => by
    rw [mn a fun z => by rw [(k0.own_at z).1] at h; cases h]; exact h
  have sH : Same M1 H := fun a o h => by
    by_cases z : isOwn Γ σ a
    · rw [mo a z] at h; exact h
    · rw [mn a z] at h; exact k0.sub a o h
  have rep1 : ∀ i d b, (frzAll Γ).at i = some (d, b) → b = false ∧ ∃ v, σ[i]? = some (some v) ∧ Rep cl M1 d v := fun i d b h => by
    obtain ⟨hb, h' | ⟨e, ed, h'⟩⟩ := frzAll_at h
    · obtain ⟨v, ev, s⟩ := k0.slot i d false h'
      exact ⟨hb, v, ev, Rep.mono sM s⟩
    · subst ed
      obtain ⟨v, ev, s⟩ := k0.slot i e true h'
      obtain ⟨a, o, rfl, m, hh, t⟩ := (show ∃ a o, v = V.ref a ∧ M a = none ∧ H a = some o ∧ Top cl M e o from s)
      have io : isOwn Γ σ a := ⟨i, e, h', ev⟩
      exact ⟨hb, _, ev, Rep.of_top (by rw [mo a io]; exact hh) (t.mono sM), a, rfl, k0.ownN a io⟩
  have rep2 : ∀ i d b, (wipeE ws (frzAll Γ)).at i = some (d, b) → i ∉ ws ∧ b = false ∧ ∃ v, σ[i]? = some (some v) ∧ Rep cl M1 d v := fun i d b h => by
    by_cases hi : i ∈ ws
    · rw [wipeE_in hi] at h; cases h
    · rw [wipeE_out hi] at h; exact ⟨hi, rep1 i d b h⟩
  have l1 : (wipeE ws (frzAll Γ)).length = σ.length := by rw [wipeE_len, frzAll, List.length_map]; exact k0.len
  let c2 : Ct := { cl with N := fun a => H a = none }
  have hc2 : c2.toCt0 = cl.toCt0 := rfl
  have noown : ∀ a, ¬ isOwn (clrE (wipeE ws (frzAll Γ))) σ a := fun a ⟨i, d, h1, _⟩ => by
    obtain ⟨e, _, h2⟩ := clrE_at h1
    have := (rep2 i e true h2).2.1
    cases this
  have ok2 : OkS c2 (clrE (wipeE ws (frzAll Γ))) σ M1 H := ⟨⟨by rw [clrE, List.length_map]; exact l1, sH, fun i d b h => by
      obtain ⟨e, ed, h'⟩ := clrE_at h
      obtain ⟨_, hb, v, ev, r⟩ := rep2 i e b h'
      subst hb ed
      exact ⟨v, ev, r.clr hc2⟩, fun i j d1 d2 a h1 _ h3 _ => (noown a ⟨i, d1, h1, h3⟩).elim⟩, fun a h => h, fun a h => (noown a h).elim⟩
  have lm : ∀ i, i < σ.length → i ∉ ws → i ∈ others Γ.length ws := fun i h1 h2 => by
    refine List.mem_filter.mpr ⟨List.mem_range.mpr (by rw [k0.len]; exact h1), ?_⟩
    simp [h2]
  have fin : ∀ {Γ' : Env} {σ' σ2 : St} {M' H' H2 : Hp}, Stp c2 (others Γ.length ws) (isOwn (clrE (wipeE ws (frzAll Γ))) σ) (clrE (wipeE ws (frzAll Γ))) σ M1 H Γ' σ' M' H' → Γ'.length = Γ.length → (∀ a o, H' a = some o → ¬ c2.N a → H2 a = some o) → (∀ a, H' a ≠ none → H2 a ≠ none) →
      (∀ i, i ∉ ws → σ2[i]? = σ'[i]?) → σ2.length = σ'.length → Stp cl [] (isOwn Γ σ) Γ σ M H (wipeE ws (frzAll Γ)) σ2 M1 H2 := by
    intro Γ' σ' σ2 M' H' H2 S gl k1 k2 k3 k4
    have sl : σ'.length = σ.length := by rw [← S.ok.len, gl, k0.len]
    have keep : ∀ a o, H a = some o → H2 a = some o := fun a o h => k1 a o (S.fr.keep a o h (noown a)) fun z => by rw [show H a = none from z] at h; cases h
    have live : ∀ a, H a ≠ none → H2 a ≠ none := fun a h => k2 a (S.fr.live a h)
    have sg : ∀ i, i ∉ ws → σ2[i]? = σ[i]? := fun i hi => by
      rw [k3 i hi]
      by_cases z : i < σ.length
      · exact S.lks i (lm i z hi)
      · rw [List.getElem?_eq_none (by omega), List.getElem?_eq_none (by omega)]
    refine Stp.mk' k0 k0.ownN ⟨l1.trans (by omega), fun a o h => keep a o (sH a o h), fun i d b h => ?_, fun i j d1 d2 a h1 _ _ _ => ?_⟩ ⟨fun a o h _ => keep a o h, live, sM, fun a h h' => ?_⟩ (fun a ⟨i, d, h1, _⟩ => ?_) (fun i hi => (by cases hi)) (fun i d hi => (by cases hi))
    · obtain ⟨hi, hb, v, ev, r⟩ := rep2 i d b h
      subst hb
      exact ⟨v, (sg i hi).trans ev, r⟩
    · have := (rep2 i d1 true h1).2.1
      cases this
    · by_cases z : isOwn Γ σ a
      · exact .inr z
      · rw [mn a z] at h'; exact (h' h).elim
    · have := (rep2 i d true h1).2.1
      cases this
  refine hx c2 (others Γ.length ws) hc2 _ o1 e1 σ M1 H ok2 _ ?_
  cases o1 with
  | nx Γ' =>
    obtain ⟨⟨gl, c⟩, e⟩ := ite_some (c := Γ'.length = Γ.length ∧ ok (wipeE ws (frzAll Γ)) Γ' = true) e
    cases e
    refine fun σ' M' H' S => hu _ Γ' c c2 σ' M' H' hc2 S.ok (fun i d ds hi h hd => ?_) D fun σ2 H2 k1 k2 k3 k4 => q σ2 M1 H2 (fin S gl k1 k2 k3 k4)
    obtain ⟨_, _, v, ev, r⟩ := rep2 i d false h
    have r := r.un
    rw [hd] at r
    obtain ⟨a, vs, rfl, m, _⟩ := r
    refine ⟨a, ?_, fun z => ?_⟩
    · rw [S.lks i (lm i (List.getElem?_eq_some_iff.mp ev).1 hi)]; exact ev
    · have hz : H a = none := z
      have h1 := sH a _ m
      rw [hz] at h1
      cases h1
  | rt d b Γ' =>
    cases b with
    | true => cases e
    | false =>
      obtain ⟨⟨gl, c⟩, e⟩ := ite_some (c := Γ'.length = Γ.length ∧ d.fl.isSome = true) e
      cases e
      exact fun v σ' M' H' S r => q v σ' M1 H' (fin S gl (fun a o h _ => h) (fun a h => h) (fun _ _ => rfl) rfl) (Rep.flat c r)
  | bk Γ' => cases e
  | ct Γ' => cases e
theorem sndS_all {Φ : Pm} : ∀ (s : S) (g : Cfg) (cl : Ct), Sees cl.toCt0 g Φ → SndS cl g.lk (trS cl.K Φ s) (evS g s)
  | .skip, g, cl, hΦ => snd_skip
  | .seq a b, g, cl, hΦ => snd_seq (sndS_all a g cl hΦ) (sndS_all b g cl hΦ)
  | .set i e, g, cl, hΦ => snd_set (snd_all g hΦ e).e
  | .setk i e, g, cl, hΦ => snd_setk (snd_all g hΦ e).e
  | .par tg as, g, cl, hΦ => snd_par (snd_all g hΦ as).a
  | .unp tg e, g, cl, hΦ => snd_unp (snd_all g hΦ e).e
  | .setI o i e, g, cl, hΦ => snd_setI (snd_all g hΦ e).e (snd_all g hΦ o).e (snd_all g hΦ i).e
  | .aug i o e, g, cl, hΦ => snd_aug (snd_all g hΦ e).e
  | .setF i cs f e, g, cl, hΦ => snd_setF hΦ.cc (snd_all g hΦ e).e
  | .augF i cs f e, g, cl, hΦ => snd_augF hΦ.cc (snd_all g hΦ e).e
  | .ex e, g, cl, hΦ => snd_ex (snd_all g hΦ e).e
  | .ret e, g, cl, hΦ => snd_ret (snd_all g hΦ e).e
  | .retN, g, cl, hΦ => snd_retN
  | .ite c a b, g, cl, hΦ => snd_if (snd_all g hΦ c).t (sndS_all a g cl hΦ) (sndS_all b g cl hΦ)
  | .for_ it tg b, g, cl, hΦ => snd_for (snd_all g hΦ it).i (sndS_all b g cl hΦ)
  | .forW w i tg b, g, cl, hΦ => snd_forW (sndS_all b g cl hΦ)
  | .forV i tg b, g, cl, hΦ => snd_forV (sndS_all b { g with lk := i :: g.lk } cl ⟨hΦ.cc, hΦ.call, hΦ.spo⟩)
  | .scope ws b u, g, cl, hΦ => snd_scope (x := fun lk => evS { g with lk := lk } b) (fun c2 lk' hc => by
    have h2 : Sees c2.toCt0 { g with lk := lk' } Φ := by rw [hc]; exact ⟨hΦ.cc, hΦ.call, hΦ.spo⟩
    have := sndS_all b { g with lk := lk' } c2 h2
    rw [show c2.K = cl.K from congrArg Ct0.K hc] at this
    exact this) fun Γ0 Γ h => hΦ.spo ws u Γ0 Γ h Φ.xk
  | .whl c b, g, cl, hΦ => snd_whl g.fuel (snd_all g hΦ c).t (sndS_all b g cl hΦ)
  | .brk, g, cl, hΦ => snd_brk
  | .cnt, g, cl, hΦ => snd_cnt
  | .never, g, cl, hΦ => fun Γ o e => by cases e
  | .raise _ _ _, g, cl, hΦ => fun Γ o e => by cases e
end Dv
namespace Dv
open PySem PySem.Spec L2
/-! ### what is raised -/
/-- an exception of the class c whose field f holds v -/
structure Xn where
  c : Nat
  f : Str
  v : V
abbrev Semx := List D → Option (Xn × List D)
abbrev Xx := Env → Option (Xn × Env)
def callX (g : Cfg) (ψ : Nat → Semx) (f : Nat) (rs : List R) (Γ : Env) : Option (Xn × Env) :=
  if (g.sg f).fl then
    if rs.length = (g.sg f).io.length ∧ (g.sg f).io.all (fun b => !b) then
      (getRs Γ rs).bind fun ds => (ψ f ds).map fun p => (p.1, Γ)
    else none
  else
    (argsF g.lk (g.sg f).io rs Γ).bind fun Γ1 =>
      if argsOk Γ1 (g.sg f).io rs ∧ (ioVars (g.sg f).io rs).Nodup then
        (argRs Γ1 (g.sg f).io rs).bind fun ds => (ψ f ds).bind fun p => if p.2.length = ((g.sg f).io.filter id).length then some (p.1, putIos (g.sg f).io rs p.2 Γ1) else none
      else none
open Classical in
noncomputable def sel (ψ : Semx) (X : Xn) : Sem' := fun ds => (ψ ds).bind fun p => if p.1 = X then some (.non, false, p.2) else none
structure Xev where
  e : Xx
  a : Xx
  t : Xx
def xmk (x : Xx) : Xev := ⟨x, no, x⟩
/-- k where o is there, else x -/
def orL {α β : Type} (x : Option β) (o : Option α) (k : α → Option β) : Option β := match o with
  | some a => k a
  | none => x
def x2 (xa : Xx) (a : Env → Option (R × Env)) (xb : Xx) : Xx := fun Γ => orL (xa Γ) (a Γ) (fun p => xb p.2)
def xE (g : Cfg) (ψ : Nat → Semx) : E → Xev
  | .call f as => xmk fun Γ => orL ((xE g ψ as).a Γ) ((ev g as).a Γ) (fun p => callX g ψ f p.1 p.2)
  | .meth m tbl o as => xmk fun Γ => ((ev g o).e Γ).bind fun p => (getR p.2 p.1).bind fun d => (methD m tbl d).bind fun f => orL ((xE g ψ as).a p.2) ((ev g as).a p.2) (fun q => callX g ψ f (p.1 :: q.1) q.2)
  | .cons a r => ⟨no, x2 (xE g ψ a).e (ev g a).e (xE g ψ r).a, no⟩
  | .lst as => xmk (xE g ψ as).a
  | .tup as => xmk (xE g ψ as).a
  | .bi _ as => xmk (xE g ψ as).a
  | .bin _ a b => xmk (x2 (xE g ψ a).e (ev g a).e (xE g ψ b).e)
  | .cmp _ a b => xmk (x2 (xE g ψ a).e (ev g a).e (xE g ψ b).e)
  | .idx a b => xmk (x2 (xE g ψ a).e (ev g a).e (xE g ψ b).e)
  | .nt a => ⟨(xE g ψ a).e, no, (xE g ψ a).t⟩
  | .and_ a b => ⟨fun Γ => orL ((xE g ψ a).e Γ) (getB g (ev g a).e Γ) (fun p => if p.1 then (xE g ψ b).e p.2 else none), no, fun Γ => orL ((xE g ψ a).t Γ) ((ev g a).t Γ) (fun p => if p.1 then (xE g ψ b).t p.2 else none)⟩
  | .or_ a b => ⟨fun Γ => orL ((xE g ψ a).e Γ) (getB g (ev g a).e Γ) (fun p => if p.1 then none else (xE g ψ b).e p.2), no, fun Γ => orL ((xE g ψ a).t Γ) ((ev g a).t Γ) (fun p => if p.1 then none else (xE g ψ b).t p.2)⟩
  | .isi a _ => xmk (xE g ψ a).e
  | .fld _ o _ => xmk (xE g ψ o).e
  | .mut _ i as => xmk fun Γ => if isLst (Γ.at i) then (xE g ψ as).a Γ else none
  | _ => ⟨no, no, no⟩
def xforL (bd : D → Env → Option Env) (body : Env → Option Out) (xb : Xx) : List D → Xx
  | [], _ => none
  | x :: xs, Γ => (bd x Γ).bind fun Γ1 => orL (xb Γ1) (body Γ1) (fun o => match o with
    | .nx Γ2 => xforL bd body xb xs Γ2
    | .ct Γ2 => xforL bd body xb xs Γ2
    | _ => none)
def xwhlL (c : Env → Option (Bool × Env)) (xc : Xx) (body : Env → Option Out) (xb : Xx) : Nat → Xx
  | 0, _ => none
  | n + 1, Γ => orL (xc Γ) (c Γ) (fun p => if p.1 then orL (xb p.2) (body p.2) (fun o => match o with
    | .nx Γ2 => xwhlL c xc body xb n Γ2
    | .ct Γ2 => xwhlL c xc body xb n Γ2
    | _ => none) else none)
def xS (ψ : Nat → Semx) : Cfg → S → Xx
  | g, .seq a b, Γ => orL (xS ψ g a Γ) (evS g a Γ) (fun o => match o with
    | .nx Γ1 => xS ψ g b Γ1
    | _ => none)
  | g, .set _ e, Γ => (xE g ψ e).e Γ
  | g, .setk _ e, Γ => (xE g ψ e).e Γ
  | g, .unp _ e, Γ => (xE g ψ e).e Γ
  | g, .ex e, Γ => (xE g ψ e).e Γ
  | g, .ret e, Γ => (xE g ψ e).e Γ
  | g, .setI _ _ e, Γ => (xE g ψ e).e Γ
  | g, .ite c a b, Γ => orL ((xE g ψ c).t Γ) ((ev g c).t Γ) (fun p => if p.1 then xS ψ g a p.2 else xS ψ g b p.2)
  | g, .for_ it tg b, Γ => ((ev g it).i Γ).bind fun p => xforL (bindT g.lk tg) (evS g b) (xS ψ g b) p.1 p.2
  | g, .whl c b, Γ => xwhlL (ev g c).t (xE g ψ c).t (evS g b) (xS ψ g b) g.fuel Γ
  | g, .raise c f e, Γ => ((ev g e).e Γ).bind fun p => (getR p.2 p.1).bind fun d => d.fl.map fun v => (⟨c, f, v⟩, p.2)
  | _, _, _ => none
/-- a def that raises: the exception, and what the changed arguments hold then -/
def xvX (io : List Bool) (nl : Nat) (x : Xx) : Semx := fun ds =>
  if ds.length = io.length ∧ io.length ≤ nl then
    (x ((ds.zip io).map some ++ List.replicate (nl - io.length) none)).bind fun p => (iosOf io p.2).map fun xs => (p.1, xs)
  else none
def xF (g : Cfg) (ψ : Nat → Semx) (f : Fn) : Semx := xvX f.io f.nl (xS ψ { g with lk := lkOf f.io } f.body)
/-! ### it is sound -/
def PostX (cl : Ct) (lk : List Nat) (Γ : Env) (σ : St) (M H : Hp) (X : Xn) (Γ' : Env) (E : XK) : Prop :=
  ∀ σ' M' H', Stp cl lk (isOwn Γ σ) Γ σ M H Γ' σ' M' H' → ∀ d, H' d = some (.xd [(X.f, X.v)]) → E (.ref (cl.c X.c)) (some d) H'
def XndE (cl : Ct) (lk : List Nat) (E : XK) (te : TE) (x : Xx) : Prop := ∀ Γ X Γ', x Γ = some (X, Γ') → ∀ σ M H, OkS cl Γ σ M H → PostX cl lk Γ σ M H X Γ' E → ∀ Q, te σ H Q
def XndA (cl : Ct) (lk : List Nat) (E : XK) (te : TA) (x : Xx) : Prop := ∀ Γ X Γ', x Γ = some (X, Γ') → ∀ σ M H, OkS cl Γ σ M H → PostX cl lk Γ σ M H X Γ' E → ∀ Q, te σ H Q
def XndT (cl : Ct) (lk : List Nat) (E : XK) (te : TT) (x : Xx) : Prop := ∀ Γ X Γ', x Γ = some (X, Γ') → ∀ σ M H, OkS cl Γ σ M H → PostX cl lk Γ σ M H X Γ' E → ∀ Q, te σ H Q
def XndS (cl : Ct) (lk : List Nat) (E : XK) (ts : TS) (x : Xx) : Prop := ∀ Γ X Γ', x Γ = some (X, Γ') → ∀ σ M H, OkS cl Γ σ M H → PostX cl lk Γ σ M H X Γ' E → ∀ D, ts D σ H
structure Xnd (cl : Ct) (lk : List Nat) (E : XK) (rd : Rdg) (x : Xev) : Prop where
  e : XndE cl lk E rd.e x.e
  a : XndA cl lk E rd.a x.a
  t : XndT cl lk E rd.t x.t
variable {cl : Ct} {lk : List Nat} {E : XK}
theorem or_some {α β : Type} {x : Option β} {o : Option α} {k : α → Option β} {y : β} (h : orL x o k = some y) : x = some y ∨ o.bind k = some y := by
  cases o with
  | none => exact .inl h
  | some a => exact .inr h
theorem PostX.after {Γ Γ1 Γ' : Env} {σ σ1 : St} {M H M1 H1 : Hp} {X : Xn} (s : Stp cl lk (isOwn Γ σ) Γ σ M H Γ1 σ1 M1 H1) (q : PostX cl lk Γ σ M H X Γ' E) : PostX cl lk Γ1 σ1 M1 H1 X Γ' E :=
  fun σ' M' H' s2 => q σ' M' H' (s.trans s2 s.own)
theorem xnd_noE {te : TE} : XndE cl lk E te no := fun _ _ _ e => nomatch e
theorem xnd_noA {te : TA} : XndA cl lk E te no := fun _ _ _ e => nomatch e
theorem xnd_noT {te : TT} : XndT cl lk E te no := fun _ _ _ e => nomatch e
theorem xnd_no {rd : Rdg} : Xnd cl lk E rd ⟨no, no, no⟩ := ⟨xnd_noE, xnd_noA, xnd_noT⟩
theorem XndE.xnd {te : TE} {x : Xx} (h : XndE cl lk E te x) : Xnd cl lk E (mk cl.K te) (xmk x) := ⟨h, xnd_noA, fun Γ X Γ' e σ M H ok q Q => h Γ X Γ' e σ M H ok q _⟩
theorem XndE.xndT {te : TE} {x : Xx} (h : XndE cl lk E te x) : Xnd cl lk E (mkT te (tTest te)) (xmk x) := ⟨h, xnd_noA, fun Γ X Γ' e σ M H ok q Q => h Γ X Γ' e σ M H ok q _⟩
theorem xnd_cons {ta : TE} {tr : TA} {a : Env → Option (R × Env)} {xa xr : Xx} (ha : SndE cl lk ta a) (hxa : XndE cl lk E ta xa) (hxr : XndA cl lk E tr xr) : XndA cl lk E (tCons ta tr) (x2 xa a xr) := by
  intro Γ X Γ' e σ M H ok q Q
  rcases or_some e with e | e
  · exact hxa Γ X Γ' e σ M H ok q _
  · obtain ⟨⟨r, Γ1⟩, e1, e⟩ := bind_some' e
    exact ha Γ r Γ1 e1 σ M H ok _ fun v M1 H1 s1 n1 v1 => hxr Γ1 X Γ' e σ M1 H1 s1.ok (q.after s1) _
theorem xnd_two {r2 : R2} {ta tb : TE} {a : Env → Option (R × Env)} {xa xb : Xx} (ha : SndE cl lk ta a) (hxa : XndE cl lk E ta xa) (hxb : XndE cl lk E tb xb) : XndE cl lk E (tOp r2 ta tb) (x2 xa a xb) := by
  intro Γ X Γ' e σ M H ok q Q
  rcases or_some e with e | e
  · exact hxa Γ X Γ' e σ M H ok q _
  · obtain ⟨⟨r, Γ1⟩, e1, e⟩ := bind_some' e
    exact ha Γ r Γ1 e1 σ M H ok _ fun v M1 H1 s1 n1 v1 => hxb Γ1 X Γ' e σ M1 H1 s1.ok (q.after s1) _
theorem callX_callD {g : Cfg} {ψ : Nat → Semx} {f : Nat} {rs : List R} {Γ Γ' : Env} {X : Xn} (h : callX g ψ f rs Γ = some (X, Γ')) : callD { g with φ := fun f => sel (ψ f) X } f rs Γ = some (.sh .non, Γ') := by
  unfold callX at h
  unfold callD
  by_cases hf : (g.sg f).fl = true
  · rw [if_pos hf] at h
    obtain ⟨c, h⟩ := ite_some h
    obtain ⟨ds, e1, h⟩ := bind_some' h
    obtain ⟨⟨X', xs⟩, e2, h⟩ := map_some' h
    cases h
    show (if (g.sg f).fl = true then _ else _) = _
    rw [if_pos hf, if_pos c, e1]
    show ((sel (ψ f) X' ds).bind _) = _
    unfold sel
    rw [e2]
    simp [D.fl]
  · rw [if_neg hf] at h
    obtain ⟨Γ1, e0, h⟩ := bind_some' h
    obtain ⟨c, h⟩ := ite_some h
    obtain ⟨ds, e1, h⟩ := bind_some' h
    obtain ⟨⟨X', xs⟩, e2, h⟩ := bind_some' h
    obtain ⟨c2, h⟩ := ite_some h
    cases h
    show (if (g.sg f).fl = true then _ else _) = _
    rw [if_neg hf, e0]
    show (if _ then _ else none) = _
    rw [if_pos c]
    show ((argRs Γ1 (g.sg f).io rs).bind _) = _
    rw [e1]
    have e3 : sel (ψ f) X' ds = some (.non, false, xs) := by
      unfold sel
      rw [e2]
      exact if_pos rfl
    show ((sel (ψ f) X' ds).bind _) = _
    rw [e3]
    show (if xs.length = _ then some (mkR (.non, false), putIos (g.sg f).io rs xs Γ1) else none) = _
    rw [if_pos c2]
    rfl
theorem sel_some {ψ : Semx} {X : Xn} {ds : List D} {d : D} {b : Bool} {xs : List D} (h : sel ψ X ds = some (d, b, xs)) : ψ ds = some (X, xs) := by
  unfold sel at h
  obtain ⟨⟨X', ys⟩, e0, e⟩ := bind_some' h
  simp only at e
  split at e
  · rename_i eX
    subst eX
    cases e
    exact e0
  · cases e
theorem sel_non {ψ : Semx} {X : Xn} {ds : List D} {d : D} {b : Bool} {xs : List D} (h : sel ψ X ds = some (d, b, xs)) : d = .non ∧ b = false := by
  unfold sel at h
  obtain ⟨⟨X', ys⟩, e0, e⟩ := bind_some' h
  simp only at e
  split at e
  · cases e
    exact ⟨rfl, rfl⟩
  · cases e
/-- what a def promises whose value is φ, or that raises as ψ tells -/
noncomputable def spX (c0 : Ct0) (sg : Sig) (φ : Sem') (ψ : Semx) : Sp := fun vs H Q E => spOf c0 sg φ vs H Q E ∨ ∃ X : Xn, spOf c0 sg (sel ψ X) vs H (fun _ H' => ∀ d, H' d = some (.xd [(X.f, X.v)]) → E (.ref (c0.c X.c)) (some d) H') E
/-- the promises tell of what is raised, too -/
def XOk (c0 : Ct0) (g : Cfg) (ψ : Nat → Semx) (Φ : Pm) : Prop := ∀ f vs H Q E (X : Xn), spOf c0 (g.sg f) (sel (ψ f) X) vs H (fun _ H' => ∀ d, H' d = some (.xd [(X.f, X.v)]) → E (.ref (c0.c X.c)) (some d) H') E → Φ.sp f vs H Q E
theorem callX_core {g : Cfg} {ψ : Nat → Semx} {f : Nat} {Φ : Pm} (hx : XOk cl.toCt0 g ψ Φ) {Γ Γ1 Γ' : Env} {rs : List R} {σ : St} {M H M1 H1 : Hp} {vs : List V} {Q : VK} {X : Xn} (ok : OkS cl Γ σ M H)
    (s1 : Stp cl g.lk (isOwn Γ σ) Γ σ M H Γ1 σ M1 H1) (n1 : Names' Γ Γ1) (v1 : RVs cl Γ1 σ M1 H1 (fun a => H a = none) rs vs) (e : callX g ψ f rs Γ1 = some (X, Γ')) (q : PostX cl g.lk Γ σ M H X Γ' E) : Φ.sp f vs H1 Q E :=
  hx f vs H1 Q E X (call_core (g := { g with φ := fun f => sel (ψ f) X }) (E := E) (sp := spOf cl.toCt0 (g.sg f) (sel (ψ f) X)) (fun _ _ _ _ h => h) ok s1 n1 v1 (callX_callD e) fun v M' H' S _ _ d hd => q σ M' H' S d hd)
theorem xnd_call {g : Cfg} {ψ : Nat → Semx} {f : Nat} {Φ : Pm} {ta : TA} {x : Env → Option (List R × Env)} {xa : Xx} (hx : XOk cl.toCt0 g ψ Φ) (ha : SndA cl g.lk ta x) (hxa : XndA cl g.lk E ta xa) : XndE cl g.lk E (tCall (Φ.sp f) [] E ta) (fun Γ => orL (xa Γ) (x Γ) (fun p => callX g ψ f p.1 p.2)) := by
  intro Γ X Γ' e σ M H ok q Q
  rcases or_some e with e | e
  · exact hxa Γ X Γ' e σ M H ok q _
  · obtain ⟨⟨rs, Γ1⟩, e1, e⟩ := bind_some' e
    refine ha Γ rs Γ1 e1 σ M H ok _ fun vs M1 H1 s1 n1 v1 => ?_
    show Φ.sp f (vs ++ []) H1 Q E
    rw [List.append_nil]
    exact callX_core hx ok s1 n1 v1 e q
theorem xnd_meth {g : Cfg} {ψ : Nat → Semx} {m : Str} {tbl : List (Nat × Nat)} {Φ : Pm} (hcc : Φ.cc = cl.c) (hE : Φ.xk = E) (hx : XOk cl.toCt0 g ψ Φ) {to : TE} {ta : TA} {x : Env → Option (R × Env)} {y : Env → Option (List R × Env)} {xa : Xx} (ho : SndE cl g.lk to x) (ha : SndA cl g.lk ta y) (hxa : XndA cl g.lk E ta xa) :
    XndE cl g.lk E (tMethD Φ m tbl to ta) (fun Γ => (x Γ).bind fun p => (getR p.2 p.1).bind fun d => (methD m tbl d).bind fun f => orL (xa p.2) (y p.2) (fun q => callX g ψ f (p.1 :: q.1) q.2)) := by
  subst hE
  intro Γ X Γ' e σ M H ok q Q
  obtain ⟨⟨r1, Γ1⟩, e1, e⟩ := bind_some' e
  obtain ⟨d, e2, e⟩ := bind_some' e
  obtain ⟨f, e3, e5⟩ := bind_some' e
  clear e
  refine ho Γ r1 Γ1 e1 σ M H ok _ fun u M1 H1 s1 n1 v1 => ?_
  cases d <;> try (cases e3; done)
  rename_i c ns xs
  obtain ⟨a, dx, fs, rfl, mm, rfl, rf⟩ := r1_obj (v1.get s1.ok e2)
  have e3' : (if m ∈ fs.map (·.1) then none else tbl.lookup c) = some f := e3
  have nm : m ∉ fs.map (·.1) := fun z => by rw [if_pos z] at e3'; cases e3'
  rw [if_neg nm] at e3'
  have mem : (c, f) ∈ tbl := lookup_mem e3'
  refine ⟨a, c, dx, fs, f, rfl, by rw [hcc]; exact mm, mem, no_lookup nm, ?_⟩
  rcases or_some e5 with e5 | e5
  · exact hxa Γ1 X Γ' e5 σ M1 H1 s1.ok (q.after s1) _
  · obtain ⟨⟨rs, Γ2⟩, e4, e5⟩ := bind_some' e5
    refine ha Γ1 rs Γ2 e4 σ M1 H1 s1.ok _ fun vs M2 H2 s2 n2 r2 => ?_
    exact callX_core (rs := r1 :: rs) hx ok (s1.trans s2 s1.own) (n1.trans n2) ⟨.ref a, vs, rfl, v1.step s2 n2 fun a h => .inl h, r2.imp fun a h => ⟨none_of_live s1.fr h, fun z => v1.alive z h⟩⟩ e5 q
theorem xnd_mut {m : Mu} {i : Nat} {ta : TA} {xa : Xx} (hxa : XndA cl lk E ta xa) : XndE cl lk E (tBM cl.K "list" (rMu m) (tVar i) ta) (fun Γ => if isLst (Γ.at i) then xa Γ else none) := by
  intro Γ X Γ' e σ M H ok q Q
  obtain ⟨c, e⟩ := ite_some e
  obtain ⟨xs, a, vs, k1, k2, k3, k4⟩ := isLst_ok ok c
  exact ⟨.ref a, k2, .inl ⟨rfl, _, SqL.of k3⟩, hxa Γ X Γ' e σ M H ok q _⟩
theorem xnd_and {g : Cfg} {ta tb : TE} {t1 t2 : TT} {x : Env → Option (R × Env)} {u : Env → Option (Bool × Env)} {xa xb ya yb : Xx} (ha : SndE cl lk ta x) (h1 : SndT cl lk t1 u) (hxa : XndE cl lk E ta xa) (hxb : XndE cl lk E tb xb) (hya : XndT cl lk E t1 ya) (hyb : XndT cl lk E t2 yb) :
    Xnd cl lk E (mkT (tAndV ta tb) (tAnd t1 t2)) ⟨fun Γ => orL (xa Γ) (getB g x Γ) (fun p => if p.1 then xb p.2 else none), no, fun Γ => orL (ya Γ) (u Γ) (fun p => if p.1 then yb p.2 else none)⟩ := by
  refine ⟨fun Γ X Γ' e σ M H ok q Q => ?_, xnd_noA, fun Γ X Γ' e σ M H ok q Q => ?_⟩
  · rcases or_some e with e | e
    · exact hxa Γ X Γ' e σ M H ok q _
    · obtain ⟨⟨b, Γ1⟩, e1, e⟩ := bind_some' e
      obtain ⟨c, e⟩ := ite_some e
      obtain rfl : b = true := c
      exact snd_getB ha e1 ok fun M1 H1 s1 n1 => ⟨true, rfl, by rw [if_pos rfl]; exact hxb Γ1 X Γ' e σ M1 H1 s1.ok (q.after s1) Q⟩
  · rcases or_some e with e | e
    · exact hya Γ X Γ' e σ M H ok q _
    · obtain ⟨⟨b, Γ1⟩, e1, e⟩ := bind_some' e
      obtain ⟨c, e⟩ := ite_some e
      obtain rfl : b = true := c
      refine h1 Γ true Γ1 e1 σ M H ok _ fun M1 H1 s1 n1 => ?_
      rw [if_pos rfl]
      exact hyb Γ1 X Γ' e σ M1 H1 s1.ok (q.after s1) Q
theorem ite_none {α : Type} {c : Bool} {x : Option α} {a : α} (h : (if c = true then none else x) = some a) : c = false ∧ x = some a := by
  cases c with
  | true => cases h
  | false => exact ⟨rfl, h⟩
theorem xnd_or {g : Cfg} {ta tb : TE} {t1 t2 : TT} {x : Env → Option (R × Env)} {u : Env → Option (Bool × Env)} {xa xb ya yb : Xx} (ha : SndE cl lk ta x) (h1 : SndT cl lk t1 u) (hxa : XndE cl lk E ta xa) (hxb : XndE cl lk E tb xb) (hya : XndT cl lk E t1 ya) (hyb : XndT cl lk E t2 yb) :
    Xnd cl lk E (mkT (tOrV ta tb) (tOr t1 t2)) ⟨fun Γ => orL (xa Γ) (getB g x Γ) (fun p => if p.1 then none else xb p.2), no, fun Γ => orL (ya Γ) (u Γ) (fun p => if p.1 then none else yb p.2)⟩ := by
  refine ⟨fun Γ X Γ' e σ M H ok q Q => ?_, xnd_noA, fun Γ X Γ' e σ M H ok q Q => ?_⟩
  · rcases or_some e with e | e
    · exact hxa Γ X Γ' e σ M H ok q _
    · obtain ⟨⟨b, Γ1⟩, e1, e⟩ := bind_some' e
      obtain ⟨c, e⟩ := ite_none e
      obtain rfl : b = false := c
      exact snd_getB ha e1 ok fun M1 H1 s1 n1 => ⟨false, rfl, by rw [if_neg (by simp)]; exact hxb Γ1 X Γ' e σ M1 H1 s1.ok (q.after s1) Q⟩
  · rcases or_some e with e | e
    · exact hya Γ X Γ' e σ M H ok q _
    · obtain ⟨⟨b, Γ1⟩, e1, e⟩ := bind_some' e
      obtain ⟨c, e⟩ := ite_none e
      obtain rfl : b = false := c
      refine h1 Γ false Γ1 e1 σ M H ok _ fun M1 H1 s1 n1 => ?_
      rw [if_neg (by simp)]
      exact hyb Γ1 X Γ' e σ M1 H1 s1.ok (q.after s1) Q
theorem xnd_all (g : Cfg) (ψ : Nat → Semx) {Φ : Pm} (hΦ : Sees cl.toCt0 g Φ) (hx : XOk cl.toCt0 g ψ Φ) : ∀ c : Dv.E, Xnd cl g.lk Φ.xk (tr cl.K Φ c) (xE g ψ c)
  | .var i => xnd_no
  | .cst v => xnd_no
  | .bin o a b => (xnd_two (snd_all g hΦ a).e (xnd_all g ψ hΦ hx a).e (xnd_all g ψ hΦ hx b).e).xnd
  | .cmp o a b => (xnd_two (snd_all g hΦ a).e (xnd_all g ψ hΦ hx a).e (xnd_all g ψ hΦ hx b).e).xndT
  | .nt a => ⟨fun Γ X Γ' e σ M H ok q Q => (xnd_all g ψ hΦ hx a).e Γ X Γ' e σ M H ok q _, xnd_noA, fun Γ X Γ' e σ M H ok q Q => (xnd_all g ψ hΦ hx a).t Γ X Γ' e σ M H ok q _⟩
  | .neg a => xnd_no
  | .and_ a b => xnd_and (snd_all g hΦ a).e (snd_all g hΦ a).t (xnd_all g ψ hΦ hx a).e (xnd_all g ψ hΦ hx b).e (xnd_all g ψ hΦ hx a).t (xnd_all g ψ hΦ hx b).t
  | .or_ a b => xnd_or (snd_all g hΦ a).e (snd_all g hΦ a).t (xnd_all g ψ hΦ hx a).e (xnd_all g ψ hΦ hx b).e (xnd_all g ψ hΦ hx a).t (xnd_all g ψ hΦ hx b).t
  | .ite c a b => xnd_no
  | .nil => xnd_no
  | .cons a r => ⟨xnd_noE, xnd_cons (snd_all g hΦ a).e (xnd_all g ψ hΦ hx a).e (xnd_all g ψ hΦ hx r).a, xnd_noT⟩
  | .lst as => XndE.xnd fun Γ X Γ' e σ M H ok q Q => (xnd_all g ψ hΦ hx as).a Γ X Γ' e σ M H ok q _
  | .tup as => XndE.xnd fun Γ X Γ' e σ M H ok q Q => (xnd_all g ψ hΦ hx as).a Γ X Γ' e σ M H ok q _
  | .dnew => xnd_no
  | .idx a b => (xnd_two (snd_all g hΦ a).e (xnd_all g ψ hΦ hx a).e (xnd_all g ψ hΦ hx b).e).xnd
  | .sl a lo hi => xnd_no
  | .andT a b => xnd_no
  | .nopart => xnd_no
  | .bi f as => XndE.xnd fun Γ X Γ' e σ M H ok q Q => (xnd_all g ψ hΦ hx as).a Γ X Γ' e σ M H ok q _
  | .isi a t => XndE.xnd fun Γ X Γ' e σ M H ok q Q => (xnd_all g ψ hΦ hx a).e Γ X Γ' e σ M H ok q _
  | .keysL a => xnd_no
  | .lenSet a => xnd_no
  | .minD a => xnd_no
  | .dsp ks => xnd_no
  | .rep a y z => xnd_no
  | .partn a b => xnd_no
  | .revL a => xnd_no
  | .bm m o as => xnd_no
  | .get1 o k => xnd_no
  | .get2 o k x => xnd_no
  | .mut m i as => (xnd_mut (xnd_all g ψ hΦ hx as).a).xnd
  | .call f as => (xnd_call hx (snd_all g hΦ as).a (xnd_all g ψ hΦ hx as).a).xnd
  | .mutE m o as => xnd_no
  | .fld cs o f => XndE.xnd fun Γ X Γ' e σ M H ok q Q => (xnd_all g ψ hΦ hx o).e Γ X Γ' e σ M H ok q _
  | .new c f as => xnd_no
  | .meth m tbl o as => (xnd_meth hΦ.cc rfl hx (snd_all g hΦ o).e (snd_all g hΦ as).a (xnd_all g ψ hΦ hx as).a).xnd
  | .itRev as => xnd_no
  | .compW w vs i tg c e => xnd_no
  | .compV vs i tg c e => xnd_no
  | .comp vs it tg c e => xnd_no
  | .itL e => xnd_no
  | .itT e => xnd_no
  | .itR1 as => xnd_no
  | .itR2 as => xnd_no
  | .itE as => xnd_no
  | .itS e => xnd_no
end Dv
namespace Dv
open PySem PySem.Spec L2
variable {cl : Ct} {lk : List Nat} {E : XK}
theorem xnd_seq {t u : TS} {x : Env → Option Out} {xa xb : Xx} (h1 : SndS cl lk t x) (hxa : XndS cl lk E t xa) (hxb : XndS cl lk E u xb) : XndS cl lk E (tSeq t u) (fun Γ => orL (xa Γ) (x Γ) (fun o => match o with
    | .nx Γ1 => xb Γ1
    | _ => none)) := by
  intro Γ X Γ' e σ M H ok q D
  rcases or_some e with e | e
  · exact hxa Γ X Γ' e σ M H ok q _
  · obtain ⟨o, e1, e⟩ := bind_some' e
    refine h1 Γ o e1 σ M H ok _ ?_
    cases o with
    | nx Γ1 => exact fun σ1 M1 H1 s1 => hxb Γ1 X Γ' e σ1 M1 H1 s1.ok (q.after s1) D
    | bk Γ1 => cases e
    | ct Γ1 => cases e
    | rt d b Γ1 => cases e
theorem xnd_if {tc : TT} {ta tb : TS} {u : Env → Option (Bool × Env)} {xc xa xb : Xx} (hc : SndT cl lk tc u) (hxc : XndT cl lk E tc xc) (hxa : XndS cl lk E ta xa) (hxb : XndS cl lk E tb xb) : XndS cl lk E (tIfS tc ta tb) (fun Γ => orL (xc Γ) (u Γ) (fun p => if p.1 then xa p.2 else xb p.2)) := by
  intro Γ X Γ' e σ M H ok q D
  rcases or_some e with e | e
  · exact hxc Γ X Γ' e σ M H ok q _
  · obtain ⟨⟨b, Γ1⟩, e1, e⟩ := bind_some' e
    refine hc Γ b Γ1 e1 σ M H ok _ fun M1 H1 s1 n1 => ?_
    cases b with
    | true => exact hxa Γ1 X Γ' e σ M1 H1 s1.ok (q.after s1) D
    | false => exact hxb Γ1 X Γ' e σ M1 H1 s1.ok (q.after s1) D
theorem upd_del {H : Hp} {a d : Addr} {u w o z : HO} (ha : H a = none) (hd : d ≠ a) : upd (del (upd (upd (upd H a u) d w) a o) a) d z = upd H d z := by
  funext b
  by_cases h1 : b = d
  · subst h1; rw [upd_same, upd_same]
  · rw [upd_ne h1, upd_ne h1]
    by_cases h2 : b = a
    · subst h2; rw [del_same, ha]
    · rw [del_ne h2, upd_ne h2, upd_ne h1, upd_ne h2]
theorem xnd_raise {Φ : Pm} (hcc : Φ.cc = cl.c) {c : Nat} {f : Str} {te : TE} {x : Env → Option (R × Env)} (h : SndE cl lk te x) : XndS cl lk Φ.xk (sRaise Φ c f te) (fun Γ => (x Γ).bind fun p => (getR p.2 p.1).bind fun d => d.fl.map fun v => (⟨c, f, v⟩, p.2)) := by
  intro Γ X Γ' e σ M H ok q D
  obtain ⟨⟨r, Γ1⟩, e1, e⟩ := bind_some' e
  obtain ⟨d, e2, e⟩ := bind_some' e
  obtain ⟨u, e3, e⟩ := map_some' e
  cases e
  refine h Γ r _ e1 σ M H ok _ fun v M1 H1 s1 n1 v1 => ⟨by show 1 ≤ 1000; decide, fun a ha => ?_⟩
  obtain rfl : v = u := (v1.reph s1.ok e2).fl e3
  refine ⟨a, v, rfl, upd_same, fun d hd ne => ⟨rfl, d, [(f, v)], upd_same, by rw [upd_ne ne, upd_same], by rw [upd_ne ne] at hd; exact hd, ?_⟩⟩
  rw [upd_ne ne] at hd
  rw [upd_del ha ne, hcc]
  exact q σ M1 _ (s1.trans (Stp.ext s1.ok (ext_own s1.ok.sub hd) fun a z => z) s1.own) d upd_same
theorem xnd_for {tg : List Nat} {wi : TI} {tb : TS} {x : Env → Option (List D × Env)} {y : Env → Option Out} {xb : Xx} (hi : SndI cl lk wi x) (hb : SndS cl lk tb y) (hxb : XndS cl lk E tb xb) : XndS cl lk E (tFor wi (trG cl.K tg) tb) (fun Γ => (x Γ).bind fun p => xforL (bindT lk tg) y xb p.1 p.2) := by
  intro Γ X Γ' e σ M H ok q D
  obtain ⟨⟨ds, Γ1⟩, e1, e⟩ := bind_some' e
  refine hi Γ ds Γ1 e1 σ M H ok _ fun J M1 H1 s1 n1 wk => ?_
  have q1 := q.after s1
  let Inv : Nat → St → Hp → Prop := fun i σi Hi => i ≤ ds.length ∧ ∃ Γi Mi, xforL (bindT lk tg) y xb (ds.drop i) Γi = some (X, Γ') ∧ Stp cl lk (isOwn Γ1 σ) Γ1 σ M1 H1 Γi σi Mi Hi
  refine ⟨fun i m σi Hi => m = ds.length - i ∧ Inv i σi Hi, ⟨ds.length, rfl, Nat.zero_le _, Γ1, M1, e, Stp.rfl' s1.ok⟩, ?_⟩
  rintro i m σi Hi ⟨rfl, hil, Γi, Mi, k1, S⟩
  by_cases hlt : i < ds.length
  · obtain ⟨d, hd⟩ : ∃ d, ds[i]? = some d := ⟨ds[i], List.getElem?_eq_getElem hlt⟩
    have hdrop : ds.drop i = d :: ds.drop (i + 1) := by
      rw [List.drop_eq_getElem_cons hlt]
      have := List.getElem?_eq_getElem hlt
      rw [hd] at this
      cases this
      rfl
    rw [hdrop] at k1
    obtain ⟨Γ2, g1, k1⟩ := bind_some' (show ((bindT lk tg d Γi).bind fun Γ1 => orL (xb Γ1) (y Γ1) (fun o => match o with
      | .nx Γ2 => xforL (bindT lk tg) y xb (ds.drop (i + 1)) Γ2
      | .ct Γ2 => xforL (bindT lk tg) y xb (ds.drop (i + 1)) Γ2
      | _ => none)) = some (X, Γ') from k1)
    obtain ⟨go, step⟩ := wk.1 i d Mi Hi S.fr.subM S.ok.sub hd
    refine .inr ⟨go, Inv (i + 1), fun σ' H' h' => ⟨ds.length - (i + 1), by omega, rfl, h'⟩, fun xv H2 hy => ?_⟩
    obtain ⟨M2, ext, rx⟩ := step xv H2 hy
    have S2 := S.trans (Stp.ext (lk := lk) S.ok ext fun a z => z) S.own
    refine bind_ok S2.ok g1 rx _ fun σ2 s3 _ _ _ => ?_
    have S3 := S2.trans s3 S2.own
    rcases or_some k1 with k1 | k1
    · exact hxb Γ2 X Γ' k1 σ2 M2 H2 S3.ok (q1.after S3) _
    · obtain ⟨o2, g2, k1⟩ := bind_some' k1
      refine hb Γ2 o2 g2 σ2 M2 H2 S3.ok _ ?_
      cases o2 with
      | nx Γ3 => exact fun σ' M' H' s4 => ⟨by omega, Γ3, M', k1, S3.trans s4 S3.own⟩
      | ct Γ3 => exact fun σ' M' H' s4 => ⟨by omega, Γ3, M', k1, S3.trans s4 S3.own⟩
      | bk Γ3 => cases k1
      | rt d b Γ3 => cases k1
  · have hi' : i = ds.length := by omega
    subst hi'
    rw [List.drop_length] at k1
    cases k1
theorem xnd_whl {tc : TT} {tb : TS} {c : Env → Option (Bool × Env)} {y : Env → Option Out} {xc xb : Xx} (n : Nat) (hc : SndT cl lk tc c) (hxc : XndT cl lk E tc xc) (hb : SndS cl lk tb y) (hxb : XndS cl lk E tb xb) : XndS cl lk E (tWhile tc tb) (fun Γ => xwhlL c xc y xb n Γ) := by
  intro Γ X Γ' e σ M H ok q D
  refine ⟨fun m σi Hi => ∃ Γi Mi, xwhlL c xc y xb m Γi = some (X, Γ') ∧ Stp cl lk (isOwn Γ σ) Γ σ M H Γi σi Mi Hi, ⟨n, Γ, M, e, Stp.rfl' ok⟩, ?_⟩
  rintro m σi Hi ⟨Γi, Mi, k, S⟩
  cases m with
  | zero => cases k
  | succ m =>
    rcases or_some (show (orL (xc Γi) (c Γi) (fun p => if p.1 then orL (xb p.2) (y p.2) (fun o => match o with
      | .nx Γ2 => xwhlL c xc y xb m Γ2
      | .ct Γ2 => xwhlL c xc y xb m Γ2
      | _ => none) else none)) = some (X, Γ') from k) with k | k
    · exact hxc Γi X Γ' k σi Mi Hi S.ok (q.after S) _
    · obtain ⟨⟨b, Γ1⟩, e1, k⟩ := bind_some' k
      obtain ⟨cb, k⟩ := ite_some k
      obtain rfl : b = true := cb
      refine hc Γi true Γ1 e1 σi Mi Hi S.ok _ fun M1 H1 s1 n1 => ?_
      have S1 := S.trans s1 S.own
      rw [if_pos rfl]
      refine ⟨fun σ' H' => ∃ m', m' < m + 1 ∧ ∃ Γi Mi, xwhlL c xc y xb m' Γi = some (X, Γ') ∧ Stp cl lk (isOwn Γ σ) Γ σ M H Γi σ' Mi H', fun _ _ h => h, ?_⟩
      rcases or_some k with k | k
      · exact hxb Γ1 X Γ' k σi M1 H1 S1.ok (q.after S1) _
      · obtain ⟨o2, g2, k⟩ := bind_some' k
        refine hb Γ1 o2 g2 σi M1 H1 S1.ok _ ?_
        cases o2 with
        | nx Γ3 => exact fun σ' M' H' s4 => ⟨m, Nat.lt_succ_self m, Γ3, M', k, S1.trans s4 S1.own⟩
        | ct Γ3 => exact fun σ' M' H' s4 => ⟨m, Nat.lt_succ_self m, Γ3, M', k, S1.trans s4 S1.own⟩
        | bk Γ3 => cases k
        | rt d b Γ3 => cases k
theorem xndS_all (ψ : Nat → Semx) {Φ : Pm} : ∀ (s : S) (g : Cfg) (cl : Ct), Sees cl.toCt0 g Φ → XOk cl.toCt0 g ψ Φ → XndS cl g.lk Φ.xk (trS cl.K Φ s) (xS ψ g s)
  | .skip, g, cl, hΦ, hx => fun _ _ _ e => by cases e
  | .seq a b, g, cl, hΦ, hx => xnd_seq (sndS_all a g cl hΦ) (xndS_all ψ a g cl hΦ hx) (xndS_all ψ b g cl hΦ hx)
  | .set i e, g, cl, hΦ, hx => fun Γ X Γ' h σ M H ok q D => (xnd_all g ψ hΦ hx e).e Γ X Γ' h σ M H ok q _
  | .setk i e, g, cl, hΦ, hx => fun Γ X Γ' h σ M H ok q D => (xnd_all g ψ hΦ hx e).e Γ X Γ' h σ M H ok q _
  | .par tg as, g, cl, hΦ, hx => fun _ _ _ e => by cases e
  | .unp tg e, g, cl, hΦ, hx => fun Γ X Γ' h σ M H ok q D => (xnd_all g ψ hΦ hx e).e Γ X Γ' h σ M H ok q _
  | .setI o i e, g, cl, hΦ, hx => fun Γ X Γ' h σ M H ok q D => (xnd_all g ψ hΦ hx e).e Γ X Γ' h σ M H ok q _
  | .aug i o e, g, cl, hΦ, hx => fun _ _ _ e => by cases e
  | .setF i cs f e, g, cl, hΦ, hx => fun _ _ _ e => by cases e
  | .augF i cs f e, g, cl, hΦ, hx => fun _ _ _ e => by cases e
  | .ex e, g, cl, hΦ, hx => fun Γ X Γ' h σ M H ok q D => (xnd_all g ψ hΦ hx e).e Γ X Γ' h σ M H ok q _
  | .ret e, g, cl, hΦ, hx => fun Γ X Γ' h σ M H ok q D => (xnd_all g ψ hΦ hx e).e Γ X Γ' h σ M H ok q _
  | .retN, g, cl, hΦ, hx => fun _ _ _ e => by cases e
  | .ite c a b, g, cl, hΦ, hx => xnd_if (snd_all g hΦ c).t (xnd_all g ψ hΦ hx c).t (xndS_all ψ a g cl hΦ hx) (xndS_all ψ b g cl hΦ hx)
  | .for_ it tg b, g, cl, hΦ, hx => xnd_for (snd_all g hΦ it).i (sndS_all b g cl hΦ) (xndS_all ψ b g cl hΦ hx)
  | .forW w i tg b, g, cl, hΦ, hx => fun _ _ _ e => by cases e
  | .forV i tg b, g, cl, hΦ, hx => fun _ _ _ e => by cases e
  | .scope ws b u, g, cl, hΦ, hx => fun _ _ _ e => by cases e
  | .whl c b, g, cl, hΦ, hx => xnd_whl g.fuel (snd_all g hΦ c).t (xnd_all g ψ hΦ hx c).t (sndS_all b g cl hΦ) (xndS_all ψ b g cl hΦ hx)
  | .brk, g, cl, hΦ, hx => fun _ _ _ e => by cases e
  | .cnt, g, cl, hΦ, hx => fun _ _ _ e => by cases e
  | .never, g, cl, hΦ, hx => fun _ _ _ e => by cases e
  | .raise c f e, g, cl, hΦ, hx => xnd_raise hΦ.cc (snd_all g hΦ e).e
end Dv
namespace Dv
open PySem PySem.Spec L2
variable {cl : Ct}
/-! ### defs -/
theorem lkFrom_mem : ∀ {io : List Bool} {k i : Nat}, i ∈ lkFrom k io ↔ ∃ j, i = k + j ∧ io[j]? = some true
  | [], k, i => by simp [lkFrom]
  | true :: io, k, i => by
    show i ∈ k :: lkFrom (k + 1) io ↔ _
    rw [List.mem_cons, lkFrom_mem]
    constructor
    · rintro (h | ⟨j, h1, h2⟩)
      · exact ⟨0, by omega, rfl⟩
      · exact ⟨j + 1, by omega, by simpa using h2⟩
    · rintro ⟨j, h1, h2⟩
      cases j with
      | zero => exact .inl (by omega)
      | succ j => exact .inr ⟨j, by omega, by simpa using h2⟩
  | false :: io, k, i => by
    show i ∈ lkFrom (k + 1) io ↔ _
    rw [lkFrom_mem]
    constructor
    · rintro ⟨j, h1, h2⟩
      exact ⟨j + 1, by omega, by simpa using h2⟩
    · rintro ⟨j, h1, h2⟩
      cases j with
      | zero => simp at h2
      | succ j => exact ⟨j, by omega, by simpa using h2⟩
theorem iosFrom_ok {Γ : Env} {σ : St} {M H : Hp} (o : OkS cl Γ σ M H) : ∀ {io : List Bool} {vs : List V} {k : Nat} {xs : List D}, iosFrom k io Γ = some xs → vs.length = io.length → (∀ j v, io[j]? = some true → vs[j]? = some v → σ[k + j]? = some (some v)) → IosOk cl M H io vs xs
  | [], [], k, xs, e, _, _ => by cases e; trivial
  | [], _ :: _, _, _, _, l, _ => by simp at l
  | _ :: _, [], _, _, _, l, _ => by simp at l
  | false :: io, v :: vs, k, xs, e, l, h => iosFrom_ok o (io := io) (k := k + 1) e (by simpa using l) fun j v q1 q2 => by
      rw [show k + 1 + j = k + (j + 1) by omega]
      exact h (j + 1) v (by simpa using q1) (by simpa using q2)
  | true :: io, v :: vs, k, xs, e, l, h => by
    obtain ⟨d, e1, e⟩ := bind_some' (show ((match Γ.at k with
      | some (d, true) => some d
      | _ => none).bind fun d => (iosFrom (k + 1) io Γ).map (d :: ·)) = some xs from e)
    obtain ⟨ys, e2, e⟩ := map_some' e
    subst e
    refine ⟨?_, iosFrom_ok o (io := io) (k := k + 1) e2 (by simpa using l) fun j v q1 q2 => ?_⟩
    · cases q : Γ.at k with
      | none => rw [q] at e1; cases e1
      | some y =>
        obtain ⟨d', b⟩ := y
        rw [q] at e1
        cases b with
        | false => cases e1
        | true =>
          cases e1
          obtain ⟨w, ew, s⟩ := o.slot k _ _ q
          have := h 0 v rfl rfl
          rw [Nat.add_zero, ew] at this
          cases this
          exact s
    · rw [show k + 1 + j = k + (j + 1) by omega]
      exact h (j + 1) v (by simpa using q1) (by simpa using q2)
theorem ArgsOk.at {M H : Hp} : ∀ {io : List Bool} {ds : List D} {vs : List V} {i : Nat} {d : D} {b : Bool} {v : V}, ArgsOk cl M H io ds vs → ds[i]? = some d → io[i]? = some b → vs[i]? = some v → SlotOk cl M H d b v
  | [], [], [], i, d, b, v, h, e1, _, _ => by simp at e1
  | [], [], _ :: _, _, _, _, _, h, _, _, _ => h.elim
  | [], _ :: _, _, _, _, _, _, h, _, _, _ => h.elim
  | false :: _, [], _, _, _, _, _, h, _, _, _ => h.elim
  | true :: _, [], _, _, _, _, _, h, _, _, _ => h.elim
  | false :: _, _ :: _, [], _, _, _, _, h, _, _, _ => h.elim
  | true :: _, _ :: _, [], _, _, _, _, h, _, _, _ => h.elim
  | false :: io, d :: ds, v :: vs, 0, x, b, u, h, e1, e2, e3 => by simp at e1 e2 e3; subst e1 e2 e3; exact h.1
  | true :: io, d :: ds, v :: vs, 0, x, b, u, h, e1, e2, e3 => by
    simp at e1 e2 e3
    subst e1 e2 e3
    obtain ⟨⟨a, o, e, m, h, t, _⟩, _⟩ := h
    exact ⟨a, o, e, m, h, t⟩
  | false :: io, d :: ds, v :: vs, i + 1, x, b, u, h, e1, e2, e3 => ArgsOk.at (io := io) (i := i) h.2 (by simpa using e1) (by simpa using e2) (by simpa using e3)
  | true :: io, d :: ds, v :: vs, i + 1, x, b, u, h, e1, e2, e3 => ArgsOk.at (io := io) (i := i) h.2 (by simpa using e1) (by simpa using e2) (by simpa using e3)
theorem ArgsOk.new {M H : Hp} : ∀ {io : List Bool} {ds : List D} {vs : List V} {x : Addr}, ArgsOk cl M H io ds vs → inA io vs x → cl.N x
  | [], [], [], x, h, m => by cases m
  | [], [], _ :: _, _, h, _ => h.elim
  | [], _ :: _, _, _, h, _ => h.elim
  | false :: _, [], _, _, h, _ => h.elim
  | true :: _, [], _, _, h, _ => h.elim
  | false :: _, _ :: _, [], _, h, _ => h.elim
  | true :: _, _ :: _, [], _, h, _ => h.elim
  | false :: io, d :: ds, v :: vs, x, h, m => ArgsOk.new (io := io) h.2 m
  | true :: io, d :: ds, v :: vs, x, h, m => by
    obtain ⟨⟨a, o, e, m1, h1, t, n⟩, h2⟩ := h
    rcases List.mem_cons.mp (show V.ref x ∈ v :: ioVals io vs from m) with q | q
    · rw [e] at q; cases q; exact n
    · exact ArgsOk.new h2 q
theorem ioVals_at : ∀ {io : List Bool} {vs : List V} {i : Nat} {v : V}, io[i]? = some true → vs[i]? = some v → v ∈ ioVals io vs
  | [], _, _, _, e, _ => by simp at e
  | b :: io, [], _, _, _, e => by simp at e
  | true :: io, v :: vs, 0, u, e1, e2 => by simp at e2; subst e2; exact List.mem_cons_self
  | false :: io, v :: vs, 0, u, e1, e2 => by simp at e1
  | true :: io, v :: vs, i + 1, u, e1, e2 => List.mem_cons_of_mem _ (ioVals_at (by simpa using e1) (by simpa using e2))
  | false :: io, v :: vs, i + 1, u, e1, e2 => ioVals_at (io := io) (vs := vs) (by simpa using e1) (by simpa using e2)
theorem ioVals_inj : ∀ {io : List Bool} {vs : List V} {i j : Nat} {v : V}, (ioVals io vs).Nodup → io[i]? = some true → io[j]? = some true → vs[i]? = some v → vs[j]? = some v → i = j
  | [], _, _, _, _, _, e, _, _, _ => by simp at e
  | b :: io, [], _, _, _, _, _, _, e, _ => by simp at e
  | true :: io, v :: vs, 0, 0, u, _, _, _, _, _ => rfl
  | false :: io, v :: vs, 0, _, u, _, e, _, _, _ => by simp at e
  | false :: io, v :: vs, _ + 1, 0, u, _, _, e, _, _ => by simp at e
  | true :: io, v :: vs, 0, j + 1, u, n, e1, e2, e3, e4 => by
    simp at e3
    subst e3
    exact absurd (ioVals_at (by simpa using e2) (by simpa using e4)) (List.nodup_cons.mp (show (v :: ioVals io vs).Nodup from n)).1
  | true :: io, v :: vs, i + 1, 0, u, n, e1, e2, e3, e4 => by
    simp at e4
    subst e4
    exact absurd (ioVals_at (by simpa using e1) (by simpa using e3)) (List.nodup_cons.mp (show (v :: ioVals io vs).Nodup from n)).1
  | true :: io, v :: vs, i + 1, j + 1, u, n, e1, e2, e3, e4 => congrArg (· + 1) (ioVals_inj (List.nodup_cons.mp (show (v :: ioVals io vs).Nodup from n)).2 (by simpa using e1) (by simpa using e2) (by simpa using e3) (by simpa using e4))
  | false :: io, v :: vs, i + 1, j + 1, u, n, e1, e2, e3, e4 => congrArg (· + 1) (ioVals_inj (io := io) (vs := vs) n (by simpa using e1) (by simpa using e2) (by simpa using e3) (by simpa using e4))
/-- the frame at a def's start -/
abbrev env0 (nl : Nat) (io : List Bool) (ds : List D) : Env := (ds.zip io).map some ++ List.replicate (nl - io.length) none
theorem env0_at {nl : Nat} {io : List Bool} {ds : List D} (hl : ds.length = io.length) {i : Nat} {d : D} {b : Bool} (h : (env0 nl io ds).at i = some (d, b)) : ds[i]? = some d ∧ io[i]? = some b := by
  unfold Env.at env0 at h
  by_cases c : i < ds.length
  · have lt : i < ((ds.zip io).map some).length := by simp; omega
    rw [List.getElem?_append_left lt, List.getElem?_map, (List.getElem?_zip_eq_some (z := (ds[i], io[i]'(by omega)))).mpr ⟨List.getElem?_eq_getElem c, List.getElem?_eq_getElem (by omega)⟩] at h
    simp at h
    rw [List.getElem?_eq_getElem c, List.getElem?_eq_getElem (by omega), h.1, h.2]
    exact ⟨rfl, rfl⟩
  · rw [List.getElem?_append_right (by simp; omega), List.getElem?_replicate] at h
    split at h <;> simp at h
theorem start_at {N : List Str} {vs : List V} {i : Nat} {v : V} (h : vs[i]? = some v) : (L2.start N vs)[i]? = some (some v) := by
  unfold L2.start
  have c := (List.getElem?_eq_some_iff.mp h).1
  rw [List.getElem?_append_left (by simpa using c), List.getElem?_map, h]
  rfl
theorem ok_start {N : List Str} {io : List Bool} {ds : List D} {vs : List V} {M H : Hp} {nl : Nat} (hn : N.length = nl) (hio : io.length ≤ nl) (hf : ∀ a, H a = none → cl.N a) (s : Same M H) (a : ArgsOk cl M H io ds vs) (n : (ioVals io vs).Nodup) : OkS cl (env0 nl io ds) (L2.start N vs) M H ∧ (∀ x, isOwn (env0 nl io ds) (L2.start N vs) x → inA io vs x) ∧ ∀ x, ¬ freeOwn (lkOf io) (env0 nl io ds) (L2.start N vs) x := by
  obtain ⟨l1, l2⟩ := a.len
  have vat : ∀ i d, ds[i]? = some d → ∃ v, vs[i]? = some v := fun i d h => ⟨_, List.getElem?_eq_getElem (by have := (List.getElem?_eq_some_iff.mp h).1; omega)⟩
  have own : ∀ i d x, (env0 nl io ds).at i = some (d, true) → (L2.start N vs)[i]? = some (some (.ref x)) → io[i]? = some true ∧ vs[i]? = some (.ref x) := fun i d x h1 h2 => by
    obtain ⟨e1, e2⟩ := env0_at l2 h1
    obtain ⟨v, e3⟩ := vat i d e1
    rw [start_at e3] at h2
    cases h2
    exact ⟨e2, e3⟩
  have hin : ∀ x, isOwn (env0 nl io ds) (L2.start N vs) x → inA io vs x := fun x ⟨i, d, h1, h2⟩ => by
    obtain ⟨e1, e2⟩ := own i d x h1 h2
    exact ioVals_at e1 e2
  refine ⟨⟨⟨?_, s, fun i d b h => ?_, fun i j d1 d2 x h1 h2 h3 h4 => ?_⟩, hf, fun x h => a.new (hin x h)⟩, hin, fun x ⟨i, d, h0, h1, h2⟩ => ?_⟩
  · unfold L2.start
    simp [l1, l2, hn]
  · obtain ⟨e1, e2⟩ := env0_at l2 h
    obtain ⟨v, e3⟩ := vat i d e1
    exact ⟨v, start_at e3, a.at e1 e2 e3⟩
  · obtain ⟨e1, e2⟩ := own i d1 x h1 h3
    obtain ⟨e3, e4⟩ := own j d2 x h2 h4
    exact ioVals_inj n e1 e3 e2 e4
  · obtain ⟨e1, e2⟩ := own i d x h1 h2
    exact h0 (lkFrom_mem.mpr ⟨i, by omega, e1⟩)
/-- a body's value -/
def evX (io : List Bool) (nl : Nat) (x : Env → Option Out) : Sem' := fun ds =>
  if ds.length = io.length ∧ io.length ≤ nl then
    (x ((ds.zip io).map some ++ List.replicate (nl - io.length) none)).bind fun o => match o with
      | .nx Γ => (iosOf io Γ).map fun xs => (.non, false, xs)
      | .rt d b Γ => (iosOf io Γ).map fun xs => (d, b, xs)
      | _ => none
  else none
theorem evF_evX {g : Cfg} {fn : Fn} : evF g fn = evX fn.io fn.nl (evS { g with lk := lkOf fn.io } fn.body) := rfl
/-- a body that is derived and evaluates: the promise -/
theorem body_okX {io : List Bool} {nl : Nat} {N : List Str} {vs : List V} {H : Hp} {Q : VK} {E : XK} {sg : Sig} {ts : TS} {x : Env → Option Out} (hn : N.length = nl) (hs : sg.io = io) {c0 : Ct0} (hx : ∀ cl : Ct, cl.toCt0 = c0 → SndS cl (lkOf io) ts x)
    (h : spOf c0 sg (evX io nl x) vs H Q E) : ts { nx := fun _ H' => Q .non H', rt := Q } (L2.start N vs) H := by
  obtain ⟨cl, M, ds, rfl, hf, s, a, n, d, b, xs, e, q⟩ := h
  rw [hs] at a n q
  unfold evX at e
  obtain ⟨⟨c1, c2⟩, e⟩ := ite_some e
  obtain ⟨o, e1, e⟩ := bind_some' e
  obtain ⟨ok, own, nofree⟩ := ok_start hn c2 hf s a n
  refine hx cl rfl _ o e1 _ M H ok _ ?_
  have fin : ∀ {Γ' : Env} {σ' : St} {M' H' : Hp} {d : D} {b : Bool} {xs : List D} {v : V}, Stp cl (lkOf io) (isOwn (env0 nl io ds) (L2.start N vs)) (env0 nl io ds) (L2.start N vs) M H Γ' σ' M' H' → iosOf io Γ' = some xs →
      ResOk cl (fun a => H a = none) M' H' d b v → (∀ v M' H', Fr (inA io vs) M H M' H' → Same M' H' → IosOk cl M' H' io vs xs → ResOk cl (fun a => H a = none) M' H' d b v → Q v H') → Q v H' := by
    intro Γ' σ' M' H' d b xs v S hx hr q
    refine q v M' H' ⟨fun a o h n => S.fr.keep a o h fun z => n (own a z), S.fr.live, S.fr.subM, fun a h h' => (S.fr.new a h h').imp id (own a)⟩ S.ok.sub (iosFrom_ok S.ok hx a.len.1 fun j v q1 q2 => ?_) hr
    rw [Nat.zero_add, S.lks j (lkFrom_mem.mpr ⟨j, by omega, q1⟩)]
    exact start_at q2
  cases o with
  | nx Γ' =>
    obtain ⟨ys, e2, e⟩ := map_some' e
    cases e
    exact fun σ' M' H' S => fin (d := .non) (b := false) (v := .non) S e2 (show Rep cl M' .non .non from rfl) q
  | rt d' b' Γ' =>
    obtain ⟨ys, e2, e⟩ := map_some' e
    cases e
    refine fun v σ' M' H' S r => fin S e2 ?_ q
    cases b with
    | false => exact r
    | true =>
      obtain ⟨a, o, rfl, m, hh, t, z, _⟩ := r
      exact ⟨a, o, rfl, m, hh, t, z.elim id fun w => (nofree a w).elim⟩
  | bk Γ' => cases e
  | ct Γ' => cases e
/-- a body that is derived and raises: the promise -/
theorem body_okXX {io : List Bool} {nl : Nat} {N : List Str} {vs : List V} {H : Hp} {E : XK} {sg : Sig} {ts : TS} {x : Xx} {X : Xn} (hn : N.length = nl) (hs : sg.io = io) {c0 : Ct0} (hx : ∀ cl : Ct, cl.toCt0 = c0 → XndS cl (lkOf io) E ts x)
    (h : spOf c0 sg (sel (xvX io nl x) X) vs H (fun _ H' => ∀ d, H' d = some (.xd [(X.f, X.v)]) → E (.ref (c0.c X.c)) (some d) H') E) (D' : Ends) : ts D' (L2.start N vs) H := by
  obtain ⟨cl, M, ds, rfl, hf, s, a, n, d, b, xs, e, q⟩ := h
  rw [hs] at a n q
  obtain ⟨rfl, rfl⟩ := sel_non e
  have e0 := sel_some e
  unfold xvX at e0
  obtain ⟨⟨c1, c2⟩, e0⟩ := ite_some e0
  obtain ⟨⟨X2, Γ'⟩, e1, e0⟩ := bind_some' e0
  obtain ⟨zs, e2, e0⟩ := map_some' e0
  cases e0
  obtain ⟨ok, own, nofree⟩ := ok_start hn c2 hf s a n
  refine hx cl rfl _ _ Γ' e1 _ M H ok (fun σ' M' H' S d hd => ?_) D'
  refine q .non M' H' ⟨fun a o h n => S.fr.keep a o h fun z => n (own a z), S.fr.live, S.fr.subM, fun a h h' => (S.fr.new a h h').imp id (own a)⟩ S.ok.sub (iosFrom_ok S.ok e2 a.len.1 fun j v q1 q2 => ?_) rfl d hd
  rw [Nat.zero_add, S.lks j (lkFrom_mem.mpr ⟨j, by omega, q1⟩)]
  exact start_at q2
section
variable {c0 : Ct0} {P : Program} {w : World} {mg : Str → Option Value} {base : Heap}
theorem spX_len {sg : Sig} {φ : Sem'} {ψ : Semx} {vs : List V} {H : Hp} {Q : VK} {E : XK} (h : spX c0 sg φ ψ vs H Q E) : vs.length = sg.io.length := by
  rcases h with h | ⟨X, h⟩
  · exact spOf_len (cl := ⟨c0, fun _ => True⟩) h
  · exact spOf_len (cl := ⟨c0, fun _ => True⟩) h
/-- a def keeps the promise of its evaluation -/
theorem fn_ok {x qual : Str} {st : Stmt} {f : Addr} {fd : FuncData} {N ps : List Str} {k : Nat} {g : Cfg} {ψ : Nat → Semx} {fn : Fn} {sg : Sig} {Φ : Pm} (hΦ : Sees c0 g Φ) (hx : XOk c0 g ψ Φ) (F : Fun c0.K x qual st f fd) (S : FnScope N ps (defScope st)) (hs : sg.io = fn.io) (hN : N.length = fn.nl) (hp : ps.length = fn.io.length)
    (der : ∀ (cdv : Value) (A : Around) (outer : List PySem.Env) (s : Shared) (H : Hp) (E : XK), Room k (A.deeper (PyProof.Rows.envOfC qual (defScope st) s.heap.objs.size f cdv)) →
      PSs (cxOf (CXr P w) P w c0.K mg base N qual (defScope st) f cdv A outer s H E) (defBody st) (trS c0.K (Φ.at E) fn.body)) :
    FnOk P w c0.K mg base (CXr P w) (k + 1) f fd ps (spX c0 sg (evF g fn) (xF g ψ fn)) :=
  F.okX S (fun vs H Q E h => by rw [spX_len h, hs, hp]) fun cdv A outer s H vs Q E hr h => ⟨_, der cdv A outer s H E hr, by
    rcases h with h | ⟨X, h⟩
    · exact body_okX (sg := sg) hN hs (fun cl e => by subst e; exact sndS_all fn.body { g with lk := lkOf fn.io } cl ⟨hΦ.cc, hΦ.call, hΦ.spo⟩) h
    · exact body_okXX hN hs (fun cl e => by subst e; exact xndS_all ψ (Φ := Φ.at E) fn.body { g with lk := lkOf fn.io } cl ⟨hΦ.cc, hΦ.call, hΦ.spo⟩ hx) h _⟩
theorem fnAt {x qual : Str} {st : Stmt} {f : Addr} {fd : FuncData} {ps : List Str} {k : Nat} {sp : Sp} (F : Fun c0.K x qual st f fd) (hb : Binds c0.K fd ps []) (hm : mg x = some (.ref f)) (h : FnOk P w c0.K mg base (CXr P w) k f fd ps sp) : FnAt P w c0.K mg base k x sp := ⟨f, fd, ps, hm, F.kp, hb, h⟩
/-- with no call left nothing is promised -/
theorem spOf_none {sg : Sig} {φ : Sem'} (h : ∀ ds, φ ds = none) (vs : List V) (H : Hp) (Q : VK) (E : XK) : ¬ spOf c0 sg φ vs H Q E := fun ⟨cl, M, ds, _, _, _, _, _, d, b, xs, e, _⟩ => by rw [h] at e; cases e
theorem spX_none {sg : Sig} {φ : Sem'} {ψ : Semx} (h : ∀ ds, φ ds = none) (h2 : ∀ ds, ψ ds = none) (vs : List V) (H : Hp) (Q : VK) (E : XK) : ¬ spX c0 sg φ ψ vs H Q E := fun z => z.elim (spOf_none h vs H Q E) fun ⟨X, z⟩ => spOf_none (fun ds => by unfold sel; rw [h2]; rfl) vs H _ E z
theorem fn_no {k : Nat} {f : Addr} {fd : FuncData} {ps : List Str} {sp : Sp} (no : ∀ vs H Q E, ¬ sp vs H Q E) : FnOk P w c0.K mg base (CXr P w) k f fd ps sp :=
  ⟨fun vs H Q E h => absurd h (no vs H Q E), fun A outer s H args us vs Q E _ _ _ _ h => absurd h (no vs H Q E)⟩
/-- the law's own def: nothing leaves it -/
theorem law_fn {f : Addr} {fd : FuncData} {ps : List Str} {k : Nat} {sg : Sig} {φ : Sem'} {ψ : Semx} (h : FnOk P w c0.K mg base (CXr P w) k f fd ps (spX c0 sg φ ψ)) : FnOk P w c0.K mg base CX0 k f fd ps (spOf c0 sg φ) :=
  (to0 h).imp fun _ _ _ _ q => .inl q
/-- the law's own call -/
theorem spOf_law {sg : Sig} {φ : Sem'} {H : Hp} {a : Addr} {ns : List Int} (hio : sg.io = [false]) (hS : SqL c0.K H a (ns.map V.int)) (h : ∃ xs, φ [.scr ns] = some (.bl true, false, xs)) : spOf c0 sg φ [V.ref a] H (fun v _ => v = .bl true) fun _ _ _ => False := by
  obtain ⟨xs, h⟩ := h
  refine ⟨⟨c0, fun _ => True⟩, H, [.scr ns], rfl, fun _ _ => trivial, Same.refl H, by rw [hio]; exact ⟨⟨a, rfl, hS⟩, trivial⟩, by rw [hio]; exact List.nodup_nil, _, _, xs, h, fun v M' H' _ _ _ r => r⟩
end
end Dv
namespace Dv
open PySem PySem.Spec PyProof.Rows L2
section
variable {X : Cx} {Φ : Pm} {a b c o e : Expr} {es : List Expr} {ca cb cc ce co : E} {pos p pos' apos : Pos} {k : Nat}
variable {st : Stmt} {rest : List Stmt} {sa sb : S} {ba bb : List Stmt}
theorem s_setk (i : Nat) {x : Str} (hN : X.N.Nodup) (he : PE X e (trE X.K Φ ce)) (hi : X.N[i]? = some x := by rfl) (hx : Loc X.env.scope x := by first | exact Or.inl rfl | exact Or.inr rfl)
    (hs : swapsWith e (some (.Name x pos')) pos.line X.env = pure false := by rfl) (hf : X.fn x = true ∨ X.env.scope.names.lookup x = some .local := by first | exact .inl rfl | exact .inr rfl | assumption) :
    PS X (.Assign [.Name x pos'] e pos) (trS X.K Φ (.setk i ce)) := ps_set hN hi hx he hs hf
theorem s_setCk (i : Nat) {y : Str} (own : List (Str × Nat)) {vs : List Nat} {elt tg iter : Expr} {ifs : List Expr} {scope : Scope} {is : List Nat} (hvs : own.map (·.2) = vs) (hc : X.calm = true) (hN : X.N.Nodup) (hi : PI X tg iter (trI X.K Φ ca)) (ok : blkC X.N X.env.scope scope own = true)
    (hg : ∀ (s : Shared) (H : Hp) (C : Addr) (cl : List (Str × Addr)) (fp : List Addr), PG (X.blk s H scope (compEnvC scope cl C X.env) fp) tg (trG X.K is)) (ht : ∀ (s : Shared) (H : Hp) (C : Addr) (cl : List (Str × Addr)) (fp : List Addr), PTs (X.blk s H scope (compEnvC scope cl C X.env) fp) ifs (trT X.K (Φ.at E0) cc))
    (he : ∀ (s : Shared) (H : Hp) (C : Addr) (cl : List (Str × Addr)) (fp : List Addr), PE (X.blk s H scope (compEnvC scope cl C X.env) fp) elt (trE X.K (Φ.at E0) ce))
    (hk : X.env.scope.kind = .function := by rfl) (hy : X.N[i]? = some y := by rfl) (hyl : X.env.scope.names.lookup y = some .local := by rfl) (hl : (pos'.line == p.line) = true := by rfl)
    (ha : (scope.names.any fun (n, k) => n == y && (k == .local || k == .cell)) = false := by decide +kernel) (hs : ∀ x, foldedSetIterable iter X.env x = pure x := by intro _; rfl) :
    PS X (.Assign [.Name y pos'] (.ListComp elt [⟨tg, iter, ifs, 0⟩] scope p) pos) (trS X.K Φ (.setk i (.comp vs ca is cc ce))) := by
  subst hvs
  exact ps_setLc hc hN hy hyl (sw_true hk hyl hl ha) hi (blkOk_by ok) hg ht he hs
theorem s_setCV (i : Nat) (w : Nat) {y : Str} (own : List (Str × Nat)) {vs : List Nat} {elt tg iter : Expr} {ifs : List Expr} {scope : Scope} {is : List Nat} (hvs : own.map (·.2) = vs) (hc : X.calm = true) (hN : X.N.Nodup) (hi : PI X tg iter (trI X.K Φ (.itL (.var w)))) (ok : blkC X.N X.env.scope scope own = true)
    (hg : ∀ (s : Shared) (H : Hp) (C : Addr) (cl : List (Str × Addr)) (fp : List Addr), PG (X.blk s H scope (compEnvC scope cl C X.env) fp) tg (trG X.K is)) (ht : ∀ (s : Shared) (H : Hp) (C : Addr) (cl : List (Str × Addr)) (fp : List Addr), PTs (X.blk s H scope (compEnvC scope cl C X.env) fp) ifs (trT X.K (Φ.at E0) cc))
    (he : ∀ (s : Shared) (H : Hp) (C : Addr) (cl : List (Str × Addr)) (fp : List Addr), PE (X.blk s H scope (compEnvC scope cl C X.env) fp) elt (trE X.K (Φ.at E0) ce))
    (hk : X.env.scope.kind = .function := by rfl) (hy : X.N[i]? = some y := by rfl) (hyl : X.env.scope.names.lookup y = some .local := by rfl) (hl : (pos'.line == p.line) = true := by rfl)
    (ha : (scope.names.any fun (n, k) => n == y && (k == .local || k == .cell)) = false := by decide +kernel) (hs : ∀ x, foldedSetIterable iter X.env x = pure x := by intro _; rfl) :
    PS X (.Assign [.Name y pos'] (.ListComp elt [⟨tg, iter, ifs, 0⟩] scope p) pos) (trS X.K Φ (.set i (.compV vs w is cc ce))) := by
  subst hvs
  exact ps_setLc hc hN hy hyl (sw_true hk hyl hl ha) hi (blkOk_by ok) hg ht he hs
theorem s_setCkV (i : Nat) (w : Nat) {y : Str} (own : List (Str × Nat)) {vs : List Nat} {elt tg iter : Expr} {ifs : List Expr} {scope : Scope} {is : List Nat} (hvs : own.map (·.2) = vs) (hc : X.calm = true) (hN : X.N.Nodup) (hi : PI X tg iter (trI X.K Φ (.itL (.var w)))) (ok : blkC X.N X.env.scope scope own = true)
    (hg : ∀ (s : Shared) (H : Hp) (C : Addr) (cl : List (Str × Addr)) (fp : List Addr), PG (X.blk s H scope (compEnvC scope cl C X.env) fp) tg (trG X.K is)) (ht : ∀ (s : Shared) (H : Hp) (C : Addr) (cl : List (Str × Addr)) (fp : List Addr), PTs (X.blk s H scope (compEnvC scope cl C X.env) fp) ifs (trT X.K (Φ.at E0) cc))
    (he : ∀ (s : Shared) (H : Hp) (C : Addr) (cl : List (Str × Addr)) (fp : List Addr), PE (X.blk s H scope (compEnvC scope cl C X.env) fp) elt (trE X.K (Φ.at E0) ce))
    (hk : X.env.scope.kind = .function := by rfl) (hy : X.N[i]? = some y := by rfl) (hyl : X.env.scope.names.lookup y = some .local := by rfl) (hl : (pos'.line == p.line) = true := by rfl)
    (ha : (scope.names.any fun (n, k) => n == y && (k == .local || k == .cell)) = false := by decide +kernel) (hs : ∀ x, foldedSetIterable iter X.env x = pure x := by intro _; rfl) :
    PS X (.Assign [.Name y pos'] (.ListComp elt [⟨tg, iter, ifs, 0⟩] scope p) pos) (trS X.K Φ (.setk i (.compV vs w is cc ce))) := by
  subst hvs
  exact ps_setLc hc hN hy hyl (sw_true hk hyl hl ha) hi (blkOk_by ok) hg ht he hs
theorem d_compV (w : Nat) (own : List (Str × Nat)) {vs : List Nat} {elt tg iter : Expr} {ifs : List Expr} {scope : Scope} {is : List Nat} (hvs : own.map (·.2) = vs) (hc : X.calm = true) (hN : X.N.Nodup) (hi : PI X tg iter (trI X.K Φ (.itL (.var w)))) (ok : blkC X.N X.env.scope scope own = true)
    (hg : ∀ (s : Shared) (H : Hp) (C : Addr) (cl : List (Str × Addr)) (fp : List Addr), PG (X.blk s H scope (compEnvC scope cl C X.env) fp) tg (trG X.K is)) (ht : ∀ (s : Shared) (H : Hp) (C : Addr) (cl : List (Str × Addr)) (fp : List Addr), PTs (X.blk s H scope (compEnvC scope cl C X.env) fp) ifs (trT X.K (Φ.at E0) cc))
    (he : ∀ (s : Shared) (H : Hp) (C : Addr) (cl : List (Str × Addr)) (fp : List Addr), PE (X.blk s H scope (compEnvC scope cl C X.env) fp) elt (trE X.K (Φ.at E0) ce)) (hs : ∀ x, foldedSetIterable iter X.env x = pure x := by intro _; rfl) :
    PE X (.ListComp elt [⟨tg, iter, ifs, 0⟩] scope pos) (trE X.K Φ (.compV vs w is cc ce)) := by
  subst hvs
  exact pe_lc hc hN hi (blkOk_by ok) hg ht he hs
theorem d_compW (w : Nat) (wk : Wk) (own : List (Str × Nat)) {vs : List Nat} {elt tg iter : Expr} {ifs : List Expr} {scope : Scope} {is : List Nat} (hvs : own.map (·.2) = vs) (hc : X.calm = true) (hN : X.N.Nodup) (hi : PI X tg iter (iWk wk (tVar w))) (ok : blkC X.N X.env.scope scope own = true)
    (hg : ∀ (s : Shared) (H : Hp) (C : Addr) (cl : List (Str × Addr)) (fp : List Addr), PG (X.blk s H scope (compEnvC scope cl C X.env) fp) tg (trG X.K is)) (ht : ∀ (s : Shared) (H : Hp) (C : Addr) (cl : List (Str × Addr)) (fp : List Addr), PTs (X.blk s H scope (compEnvC scope cl C X.env) fp) ifs (trT X.K (Φ.at E0) cc))
    (he : ∀ (s : Shared) (H : Hp) (C : Addr) (cl : List (Str × Addr)) (fp : List Addr), PE (X.blk s H scope (compEnvC scope cl C X.env) fp) elt (trE X.K (Φ.at E0) ce)) (hs : ∀ x, foldedSetIterable iter X.env x = pure x := by intro _; rfl) :
    PE X (.ListComp elt [⟨tg, iter, ifs, 0⟩] scope pos) (trE X.K Φ (.compW wk vs w is cc ce)) := by
  subst hvs
  exact pe_walk (pe_lc hc hN hi (blkOk_by ok) hg ht he hs)
theorem s_forV (w : Nat) {tg : Expr} {is : List Nat} (hp : PassesOwn (model X.prog X.w) X.A X.env X.xe) (hc : X.calm = true) (hi : PI X tg a (trI X.K Φ (.itL (.var w)))) (hg : PG X tg (trG X.K is)) (hb : PSs X ba (trS X.K Φ sa)) (hs : ∀ x, foldedSetIterable a X.env x = pure x := by intro _; rfl) :
    PS X (.For tg a ba [] pos) (trS X.K Φ (.forV w is sa)) := ps_for hp hc hi hg hb hs
theorem s_forW (w : Nat) (wk : Wk) {tg : Expr} {is : List Nat} (hp : PassesOwn (model X.prog X.w) X.A X.env X.xe) (hc : X.calm = true) (hi : PI X tg a (iWk wk (tVar w))) (hg : PG X tg (trG X.K is)) (hb : PSs X ba (trS X.K Φ sa)) (hs : ∀ x, foldedSetIterable a X.env x = pure x := by intro _; rfl) :
    PS X (.For tg a ba [] pos) (trS X.K Φ (.forW wk w is sa)) := ps_walk (ps_for hp hc hi hg hb hs)
theorem i_K {tg : Expr} {w : Nat} (ha : PE X a (tVar w)) : PI X tg a (iWk .keys (tVar w)) := pi_keys ha
theorem i_It {elts : List Expr} {kk w : Nat} {tpos apos cpos : Pos} (ha : PE X a (tVar w)) (hbase : attributeBase a "items" X.env (eval a X.env) = eval a X.env := by rfl) (hline : (apos.endLine == cpos.line) = true := by rfl) :
    PI X (.Tuple elts kk tpos) (.Call (.Attribute a "items" apos) [] [] cpos) (iWk .items (tVar w)) := pi_items ha hbase hline
/-! ### texts -/
theorem p_rep {y z : Str} {j k2 : Nat} {c0 c1 apos : Pos} (ho : PE X o (trE X.K Φ co)) (hyz : (y == z) = false := by decide +kernel)
    (hst : starEach [.Constant (.str y) j c0, .Constant (.str z) k2 c1] X.env = [(false, eval (.Constant (.str y) j c0) X.env), (false, eval (.Constant (.str z) k2 c1) X.env)] := by rfl)
    (hbase : attributeBase o "replace" X.env (eval o X.env) = eval o X.env := by rfl) (hline : (apos.endLine == pos.line) = true := by rfl) :
    PET X (.Call (.Attribute o "replace" apos) [.Constant (.str y) j c0, .Constant (.str z) k2 c1] [] pos) (trE X.K Φ (.rep co y z)) := CwR.pet_replC ho hyz hst hbase hline
theorem p_repT {y z : Str} {j k2 : Nat} {c0 c1 apos : Pos} (ho : PET X o (trE X.K Φ co)) (hyz : (y == z) = false := by decide +kernel)
    (hst : starEach [.Constant (.str y) j c0, .Constant (.str z) k2 c1] X.env = [(false, eval (.Constant (.str y) j c0) X.env), (false, eval (.Constant (.str z) k2 c1) X.env)] := by rfl)
    (hbase : attributeBase o "replace" X.env (eval o X.env) = eval o X.env := by rfl) (hline : (apos.endLine == pos.line) = true := by rfl) :
    PET X (.Call (.Attribute o "replace" apos) [.Constant (.str y) j c0, .Constant (.str z) k2 c1] [] pos) (trE X.K Φ (.rep co y z)) := CwR.pet_replT ho hyz hst hbase hline
/-- a written text and something behind it that wants a token -/
theorem d_cadd {c : Str} {j : Nat} {p2 : Pos} (hb : PET X b (trE X.K Φ cb)) : PE X (.BinOp (.Constant (.str c) j p2) .Add b pos) (trE X.K Φ (.bin .add (.cst (.str c)) cb)) := by
  refine ⟨fun pins s σ H Q I h => ?_⟩
  refine wpAny_BinOp (Calls.Constant_str ?_)
  have h' : (trE X.K Φ cb) σ H fun y H2 => rB .add (.str c) y H2 Q := h
  exact thn (hb pins { s with toks := s.toks + 1 } σ H _ (by show 1 ≤ s.toks + 1; omega) (I.tok _) h') fun u s2 ⟨y, H2, I2, r2, q2⟩ => op_B .add pins s2 σ H2 (.str c) y _ u Q I2 ⟨_, rfl⟩ r2 q2
theorem d_partn {apos : Pos} (ho : PE X o (trE X.K Φ co)) (he : PE X e (trE X.K Φ ce)) (hs : starEach [e] X.env = [(false, eval e X.env)] := by rfl) (hbase : attributeBase o "partition" X.env (eval o X.env) = eval o X.env := by rfl) (hline : (apos.endLine == pos.line) = true := by rfl) :
    PE X (.Call (.Attribute o "partition" apos) [e] [] pos) (trE X.K Φ (.partn co ce)) := pe_partition ho he hs hbase hline
theorem d_revL {kk : Nat} {p1 p2 p3 : Pos} (he : PE X e (trE X.K Φ ce)) : PE X (.Subscript e (.Slice none none (some (.UnaryOp .USub (.Constant (.int 1) kk p1) p2)) p3) pos) (trE X.K Φ (.revL ce)) := pe_revL he
theorem i_S {tg : Expr} (ha : PE X a (trE X.K Φ ca)) : PI X tg a (trI X.K Φ (.itS ca)) := pi_str ha
/-- a written text of the module -/
theorem d_gstr {x v : Str} (hg : Gl X x) (hm : ∃ t, X.mg x = some (.str v t)) (hd : (x == ("__debug__" : Str)) = false := by decide) : PE X (.Name x pos) (trE X.K Φ (.cst (.str v))) := by
  obtain ⟨t, hm⟩ := hm
  exact pe_glob hg hm ⟨t, rfl⟩ hd
end
end Dv
namespace Dv
open PySem PySem.Spec PyProof.Rows L2
/-! ### exceptions of the text's own classes -/
section
variable {P : Program} {w : World} {K : PySem.W.Frag} {mg : Str → Option Value} {base : Heap} {N : List Str} {qual : Str} {sc : Scope} {f : Addr} {cdv : Value} {A : Around} {outer : List PySem.Env} {s : Shared} {H : Hp} {E : XK}
theorem cx_tk : Takes (cxOf (CXr P w) P w K mg base N qual sc f cdv A outer s H E) (fun cls d _ H => E cls d H) := takes_of rfl rfl rfl rfl
theorem cx_px : Passes (CXr P w) (cxOf (CXr P w) P w K mg base N qual sc f cdv A outer s H E) E := pass_def cx_tk
theorem cx_po : PassesOwn (model P w) (cxOf (CXr P w) P w K mg base N qual sc f cdv A outer s H E).A (cxOf (CXr P w) P w K mg base N qual sc f cdv A outer s H E).env (cxOf (CXr P w) P w K mg base N qual sc f cdv A outer s H E).xe := passes_of rfl
end
/-- an exception class of the text at C, under its name, with one field -/
def ExAt (P : Program) (w : World) (K : PySem.W.Frag) (mg : Str → Option Value) (base : Heap) (x : Str) (C : Addr) (f : Str) : Prop :=
  ∃ fI fd ps, mg x = some (.ref C) ∧ OexC K C ∧ PySem.W.findIn K (.ref C) "__init__" = some (some (.ref fI)) ∧ PySem.W.typeIn K (.ref fI) = some (.type "function") ∧ Binds K fd ps [] ∧ FnOk P w K mg base (CXr P w) 1 fI fd ps (spIni C f)
/-- its __init__ -/
theorem ini_ok {P : Program} {w : World} {K : PySem.W.Frag} {mg : Str → Option Value} {base : Heap} {C fI : Addr} {fd : FuncData} {f qual : Str} {st : Stmt} {N ps : List Str} (hN : N.length = 2) (hp : ps.length = 2) (F : Fun K "__init__" qual st fI fd) (S : FnScope N ps (defScope st)) (T : OexC K C) (hno : PySem.W.findIn K (.ref C) f = some none)
    (der : ∀ (cdv : Value) (A : Around) (outer : List PySem.Env) (s : Shared) (H : Hp) (E : XK), PSs (cxOf CX0 P w K mg base N qual (defScope st) fI cdv A outer s H E).nox (defBody st) (tOst K f (tVar 0) (tVar 1))) : FnOk P w K mg base (CXr P w) 1 fI fd ps (spIni C f) :=
  toX (F.ok (k := 0) S (fun vs H Q E ⟨a, v, e, _⟩ => by rw [e, hp]; rfl) fun cdv A outer s H vs Q E hr ⟨a, v, e, ea, q⟩ => ⟨_, der cdv A outer s H E, by
    subst e
    obtain ⟨n0, n1, rfl⟩ : ∃ x y, N = [x, y] := by
      match N, hN with
      | [x, y], _ => exact ⟨x, y, rfl⟩
    exact ⟨v, rfl, .ref a, rfl, a, C, rfl, T, hno, .inl ⟨ea, fun d hd ne => q d hd ne⟩⟩⟩)
/-- what the written part tells of such a class -/
def ExD (K : PySem.W.Frag) (mg : Str → Option Value) (x : Str) (C : Addr) (f qual : Str) (st : Stmt) (ps : List Str) : Prop :=
  mg x = some (.ref C) ∧ OexC K C ∧ PySem.W.findIn K (.ref C) f = some none ∧ ∃ fI fd, PySem.W.findIn K (.ref C) "__init__" = some (some (.ref fI)) ∧ PySem.W.typeIn K (.ref fI) = some (.type "function") ∧ Binds K fd ps [] ∧ Fun K "__init__" qual st fI fd
theorem exAt_of {P : Program} {w : World} {K : PySem.W.Frag} {mg : Str → Option Value} {base : Heap} {x : Str} {C : Addr} {f qual : Str} {st : Stmt} {N ps : List Str} (d : ExD K mg x C f qual st ps) (hN : N.length = 2) (hp : ps.length = 2) (S : FnScope N ps (defScope st))
    (der : ∀ (fI : Addr) (cdv : Value) (A : Around) (outer : List PySem.Env) (s : Shared) (H : Hp) (E : XK), PSs (cxOf CX0 P w K mg base N qual (defScope st) fI cdv A outer s H E).nox (defBody st) (tOst K f (tVar 0) (tVar 1))) : ExAt P w K mg base x C f := by
  obtain ⟨hm, O, hno, fI, fd, iC, tI, hb, F⟩ := d
  exact ⟨fI, fd, ps, hm, O, iC, tI, hb, ini_ok hN hp F S O hno fun cdv A outer s H E => der fI cdv A outer s H E⟩
theorem x_ini {X : Cx} {f n1 n2 : Str} {p1 p2 p3 pos : Pos} (h0 : X.N[0]? = some n1) (h1 : X.N[1]? = some n2) (v0 : Vis X.env.scope n1) (v1 : Vis X.env.scope n2) (d0 : (n1 == ("__debug__" : Str)) = false := by decide +kernel) (d1 : (n1 == ("__classdict__" : Str)) = false := by decide +kernel) (e0 : (n2 == ("__debug__" : Str)) = false := by decide +kernel) (e1 : (n2 == ("__classdict__" : Str)) = false := by decide +kernel)
    (hs : swapsWith (.Name n2 p3) (some (.Attribute (.Name n1 p1) f p2)) pos.line X.env = pure false := by rfl) : PSs X [.Assign [.Attribute (.Name n1 p1) f p2] (.Name n2 p3) pos] (tOst X.K f (tVar 0) (tVar 1)) :=
  pss_one (ps_ost (pe_var h0 v0 d0 d1) (pe_var h1 v1 e0 e1) hs)
section
variable {X : Cx} {Φ : Pm} {e : Expr} {ce : Dv.E} {pos p pos2 : Pos}
theorem s_raise (c : Nat) {f x : Str} (T : ExAt X.prog X.w X.K X.mg X.base x (Φ.cc c) f) (tk : Takes X (fun cls d _ H => Φ.xk cls d H)) (hc : X.calm = true) (hr : Room 2 X.A) (hg : Gl X x) (he : PE X e (trE X.K Φ ce)) (hdb : (x == ("__debug__" : Str)) = false := by decide)
    (hs : starEach (e :: []) X.env = (false, eval e X.env) :: starEach [] X.env := by rfl) (hpl : (backTo pos (starEach [] X.env)).any (·.1) = false := by rfl) :
    PS X (.Raise (some (.Call (.Name x p) [e] [] pos)) none pos2) (trS X.K Φ (.raise c f ce)) := by
  obtain ⟨fI, fd, ps, hm, O, iC, tI, hb, F⟩ := T
  exact ps_raise hc tk (pmk_oex (CX := CXr X.prog X.w) (k := 1) O iC tI F hr hb .nil passL hg hm (pa_cons he pa_nil hs) hdb hs hpl)
end
end Dv
namespace Dv
open PySem PySem.Spec L2
variable {cl : Ct}
/-! ### rows that are spoilt: each list in them gets one text more, again and again -/
def item (f : D → Bool) : D → Bool
  | .str _ => true
  | .nw (.tup [_, y]) => f y
  | .tup [_, y] => f y
  | _ => false
/-- new rows, n deep -/
def spoN : Nat → D → Bool
  | n + 1, .nw (.lst xs) => xs.all (item (spoN n))
  | _, _ => false
def itemZ (f : D → Nat) : D → Nat
  | .nw (.tup [_, y]) => f y
  | .tup [_, y] => f y
  | _ => 0
/-- how many lists -/
def sizN : Nat → D → Nat
  | n + 1, .nw (.lst xs) => 1 + (xs.map (itemZ (sizN n))).sum
  | _, _ => 0
/-- how long they are -/
def lenN (L : Nat) : Nat → D → Bool
  | n + 1, .nw (.lst xs) => decide (xs.length ≤ L) && xs.all (item (lenN L n))
  | _, _ => true
def more (n : Nat) : List V := List.replicate n (.str "more")
/-- behind the heap M lists of N have grown, each by at most c texts -/
def Grown (N : Addr → Prop) (c : Nat) (M H : Hp) : Prop := ∀ a o, M a = some o → H a = some o ∨ (N a ∧ ∃ vs n, o = .lst vs ∧ n ≤ c ∧ H a = some (.lst (vs ++ more n)))
theorem Grown.up {N : Addr → Prop} {c c' : Nat} {M H : Hp} (g : Grown N c M H) (h : c ≤ c') : Grown N c' M H := fun a o e => (g a o e).imp id fun ⟨n, vs, k, h1, h2, h3⟩ => ⟨n, vs, k, h1, by omega, h3⟩
theorem Grown.lst {N : Addr → Prop} {c : Nat} {M H : Hp} (g : Grown N c M H) {a : Addr} {vs : List V} (e : M a = some (.lst vs)) : ∃ n, n ≤ c ∧ H a = some (.lst (vs ++ more n)) := by
  rcases g a _ e with h | ⟨_, us, n, h1, h2, h3⟩
  · exact ⟨0, Nat.zero_le _, by rw [h]; simp [more]⟩
  · cases h1; exact ⟨n, h2, h3⟩
theorem Grown.tup {N : Addr → Prop} {c : Nat} {M H : Hp} (g : Grown N c M H) {a : Addr} {vs : List V} (e : M a = some (.tup vs)) : H a = some (.tup vs) := by
  rcases g a _ e with h | ⟨_, us, n, h1, h2, h3⟩
  · exact h
  · cases h1
theorem Grown.same {N : Addr → Prop} {M H : Hp} (s : Same M H) : Grown N 0 M H := fun a o e => .inl (s a o e)
def maxLen : Nat := 1000000
/-- what spoiling promises: n calls deep -/
def spSpoil (c0 : Ct0) (n : Nat) : Sp := fun vs H Q _ => ∃ (cl : Ct) (M : Hp) (d : D) (v : V) (c : Nat), cl.toCt0 = c0 ∧ vs = [v] ∧ Rep cl M d v ∧ spoN n d = true ∧ lenN maxLen n d = true ∧ Grown cl.N c M H ∧ c + sizN n d ≤ maxLen ∧
  ∀ H', Grown cl.N (c + sizN n d) M H' → (∀ a o, H a = some o → ¬ cl.N a → H' a = some o) → (∀ a, H a ≠ none → H' a ≠ none) → Q .non H'
theorem isi_str {K : PySem.W.Frag} {H : Hp} {x : V} {b : Bool} {Q : VK} (h : (∃ s, x = .str s ∧ b = true) ∨ ∃ t vs, x = .ref t ∧ H t = some (.tup vs) ∧ b = false) (q : Q (.bl b) H) : rIsi2 K [x, .ty "str"] H Q := by
  rcases h with ⟨s, rfl, rfl⟩ | ⟨t, vs, rfl, m, rfl⟩
  · exact .inl ⟨.str s, .ty "str", .type "str", .type "str", true, rfl, .ty "str", .base (.str _), kit_ty (by decide +kernel), q⟩
  · exact .inl ⟨.ref t, .ty "str", .type "tuple", .type "str", false, rfl, .ty "str", .base (.tup m), kit_ty (by decide +kernel), q⟩
/-- the body of what spoils -/
abbrev bSpoil (f : Nat) : S := .seq (.for_ (.itL (.var 0)) [1] (.ite (.nt (.isi (.var 1) "str")) (.ex (.call f (.cons (.idx (.var 1) (.cst (.int 1))) (.nil)))) (.skip))) (.ex (.mut .append 0 (.cons (.cst (.str "more")) .nil)))
theorem spoil_body {c0 : Ct0} {Φ : Pm} {f n : Nat} (hf : Φ f = spSpoil c0 n) {vs : List V} {H : Hp} {Q : VK} {E : XK} {N : List Str} (hN : N.length = 2) (h : spSpoil c0 (n + 1) vs H Q E) :
    trS c0.K Φ (bSpoil f) { nx := fun _ H' => Q .non H', rt := Q } (L2.start N vs) H := by
  obtain ⟨cl, M, d, v, c, rfl, rfl, r, h1, h2, g, hc, q⟩ := h
  cases d <;> try (cases h1; done)
  rename_i d
  cases d <;> try (cases h1; done)
  rename_i ds
  obtain ⟨⟨a, us, rfl, m, r⟩, a', ea, hna⟩ := r
  cases ea
  have h1' : ds.all (item (spoN n)) = true := h1
  have h2' : decide (ds.length ≤ maxLen) = true ∧ ds.all (item (lenN maxLen n)) = true := by
    have : (decide (ds.length ≤ maxLen) && ds.all (item (lenN maxLen n))) = true := h2
    simpa using this
  have hz : sizN (n + 1) (.nw (.lst ds)) = 1 + (ds.map (itemZ (sizN n))).sum := rfl
  rw [hz] at hc q
  have hl : ds.length ≤ maxLen := of_decide_eq_true h2'.1
  have hus : us.length = ds.length := r.length.symm
  have st : L2.start N [V.ref a] = [some (.ref a), none] := by
    match N, hN with
    | [_, _], _ => rfl
  rw [st]
  let S : Nat → Nat := fun i => ((ds.take i).map (itemZ (sizN n))).sum
  have S0 : S 0 = 0 := by simp [S]
  have Ss : ∀ i x, ds[i]? = some x → S (i + 1) = S i + itemZ (sizN n) x := fun i x h => by
    simp only [S]
    rw [List.take_add_one, h, List.map_append, List.sum_append]
    simp
  have Sle : ∀ i, S i ≤ (ds.map (itemZ (sizN n))).sum := fun i => by
    have e : (ds.map (itemZ (sizN n))).sum = S i + ((ds.drop i).map (itemZ (sizN n))).sum := by
      simp only [S]
      rw [← List.sum_append, ← List.map_append, List.take_append_drop]
    omega
  let T := (ds.map (itemZ (sizN n))).sum
  have hcT : c + (1 + T) ≤ maxLen := hc
  obtain ⟨n0, _, e0⟩ := g.lst m
  let K : Hp → Hp → Prop := fun H H' => (∀ a o, H a = some o → ¬ cl.N a → H' a = some o) ∧ ∀ a, H a ≠ none → H' a ≠ none
  let Inv : Nat → Nat → St → Hp → Prop := fun i k σ' H' => (∃ u, σ' = [some (V.ref a), u]) ∧ Grown cl.N (c + S i) M H' ∧ K H H' ∧ k = (us.length + c + T + 1) - i
  refine ⟨V.ref a, rfl, a, rfl, ⟨_, SqL.of e0⟩, Inv, ⟨_, ⟨none, rfl⟩, by rw [S0]; exact g, ⟨fun _ _ h _ => h, fun _ h => h⟩, rfl⟩, ?_⟩
  rintro i k σ' H' ⟨⟨u, rfl⟩, gi, ⟨k1, k2⟩, rfl⟩
  obtain ⟨ni, hni, ei⟩ := gi.lst m
  have hSi : S i ≤ T := Sle i
  have len : (us ++ more ni).length = us.length + ni := by simp [more]
  by_cases hlt : i < us.length + ni
  · obtain ⟨x, hx⟩ : ∃ x, (us ++ more ni)[i]? = some x := ⟨_, List.getElem?_eq_getElem (by omega)⟩
    refine .inr ⟨⟨_, x, SqL.of ei, hx⟩, fun σ2 H2 => Inv (i + 1) ((us.length + c + T + 1) - (i + 1)) σ2 H2, fun σ2 H2 h => ⟨_, by omega, h⟩, ?_⟩
    rintro x' H2 ⟨rfl, hy⟩
    have := hy _ (SqL.of ei)
    rw [hx] at this
    cases this
    show (tIfS (tNot (tTru cl.K (tCB (rIsi2 cl.K) (tCons (tVar 1) (tCons (tC (.ty "str")) tNil))))) (tDrop (tCall (Φ f) [] Φ.xk (tCons (tOp (rIdx cl.K) (tVar 1) (tC (.int 1))) tNil))) tNext) _ [some (V.ref a), some x] H2
    refine ⟨x, rfl, ?_⟩
    have tru : ∀ b, TruV cl.K (.bl b) H2 b := fun b => tru_rep (cl := cl) (d := .bl b) rfl rfl
    -- a text
    have text : ∀ s, x = .str s → S (i + 1) = S i → (tNot (tTru cl.K (tCB (rIsi2 cl.K) (tCons (tC x) (tCons (tC (.ty "str")) tNil))))) [some (V.ref a), some x] H2 fun b H3 => if b = true then (tDrop (tCall (Φ f) [] Φ.xk (tCons (tOp (rIdx cl.K) (tVar 1) (tC (.int 1))) tNil))) { nx := fun σ2 H2 => Inv (i + 1) ((us.length + c + T + 1) - (i + 1)) σ2 H2, rt := Q, ct := fun σ2 H2 => Inv (i + 1) ((us.length + c + T + 1) - (i + 1)) σ2 H2, bk := fun σ H => tDrop (tBM cl.K "list" rAppend (tVar 0) (tCons (tC (.str "more")) tNil)) { nx := fun _ H' => Q .non H', rt := Q } σ H } [some (V.ref a), some x] H3
        else Inv (i + 1) ((us.length + c + T + 1) - (i + 1)) [some (V.ref a), some x] H3 := fun s e z => by
      unfold tNot tTru tCB tCons tC tNil
      show rIsi2 cl.K [x, .ty "str"] H2 _
      refine isi_str (b := true) (.inl ⟨s, e, rfl⟩) ?_
      refine ⟨true, tru true, ?_⟩
      show Inv (i + 1) _ _ H2
      exact ⟨⟨_, rfl⟩, by rw [z]; exact gi, ⟨k1, k2⟩, rfl⟩
    by_cases hi : i < us.length
    · rw [List.getElem?_append_left hi] at hx
      obtain ⟨dx, hdx⟩ : ∃ dx, ds[i]? = some dx := ⟨_, List.getElem?_eq_getElem (by omega)⟩
      obtain ⟨w, ew, rw'⟩ := r.get hdx
      rw [hx] at ew
      cases ew
      have i1 := List.all_eq_true.mp h1' dx (List.mem_of_getElem? hdx)
      have i2 := List.all_eq_true.mp h2'.2 dx (List.mem_of_getElem? hdx)
      have Si := Ss i dx hdx
      have Sle1 := Sle (i + 1)
      -- a tuple
      have tupl : ∀ p y, Rep cl M (.tup [p, y]) x → spoN n y = true → lenN maxLen n y = true → itemZ (sizN n) dx = sizN n y → (tNot (tTru cl.K (tCB (rIsi2 cl.K) (tCons (tC x) (tCons (tC (.ty "str")) tNil))))) [some (V.ref a), some x] H2 fun b H3 => if b = true then (tDrop (tCall (Φ f) [] Φ.xk (tCons (tOp (rIdx cl.K) (tVar 1) (tC (.int 1))) tNil))) { nx := fun σ2 H2 => Inv (i + 1) ((us.length + c + T + 1) - (i + 1)) σ2 H2, rt := Q, ct := fun σ2 H2 => Inv (i + 1) ((us.length + c + T + 1) - (i + 1)) σ2 H2, bk := fun σ H => tDrop (tBM cl.K "list" rAppend (tVar 0) (tCons (tC (.str "more")) tNil)) { nx := fun _ H' => Q .non H', rt := Q } σ H } [some (V.ref a), some x] H3
          else Inv (i + 1) ((us.length + c + T + 1) - (i + 1)) [some (V.ref a), some x] H3 := fun p y hr j1 j2 j3 => by
        obtain ⟨t, ws, rfl, mt, hr⟩ := hr
        obtain ⟨pv, r1, rfl, rp, hr⟩ := hr
        obtain ⟨yv, r2, rfl, ry, hr⟩ := hr
        cases hr
        have ht := gi.tup mt
        unfold tNot tTru
        unfold tCB tCons
        unfold tC tNil
        show rIsi2 cl.K [V.ref t, .ty "str"] H2 _
        refine isi_str (b := false) (.inr ⟨t, _, rfl, ht, rfl⟩) ?_
        refine ⟨false, tru false, ?_⟩
        show (tDrop (tCall (Φ f) [] Φ.xk (tCons (tOp (rIdx cl.K) (tVar 1) (tC (.int 1))) tNil))) _ [some (V.ref a), some (V.ref t)] H2
        refine ⟨_, rfl, .inl (.inr (.inl ⟨t, [pv, yv], 1, yv, rfl, rfl, SqT.of ht, rfl, ?_⟩))⟩
        show Φ f ([yv] ++ []) H2 _ Φ.xk
        rw [hf]
        refine ⟨cl, M, y, yv, c + S i, rfl, rfl, ry, j1, j2, gi, ?_, fun H3 g3 q1 q2 => ?_⟩
        · have : S (i + 1) ≤ T := Sle1
          omega
        · show Inv (i + 1) _ _ H3
          refine ⟨⟨_, rfl⟩, ?_, ⟨fun b o h n => q1 b o (k1 b o h n) n, fun b h => q2 b (k2 b h)⟩, rfl⟩
          rw [Si, j3, ← Nat.add_assoc]
          exact g3
      cases dx with
      | str s => exact text s rw' Si
      | tup l =>
        match l, i1 with
        | [p, y], i1 => exact tupl p y rw' i1 i2 rfl
      | nw e =>
        cases e with
        | tup l =>
          match l, i1 with
          | [p, y], i1 => exact tupl p y rw'.1 i1 i2 rfl
        | _ => cases i1
      | _ => cases i1
    · rw [List.getElem?_append_right (by omega)] at hx
      have e1 : x = .str "more" := by
        unfold more at hx
        rw [List.getElem?_replicate] at hx
        split at hx
        · cases hx; rfl
        · cases hx
      have z : S (i + 1) = S i := by
        simp only [S]
        rw [List.take_of_length_le (by omega), List.take_of_length_le (by omega)]
      exact text _ e1 z
  · refine .inl ⟨⟨_, SqL.of ei, by rw [len]; omega⟩, ?_⟩
    have lt : (us ++ more ni).length < sizeLine := by
      have : maxLen + maxLen < sizeLine := by decide
      rw [len]
      omega
    refine ⟨V.ref a, rfl, .inl ⟨rfl, _, SqL.of ei⟩, a, us ++ more ni, .str "more", rfl, rfl, ei, lt, ?_⟩
    refine q _ (fun b o e => ?_) (fun b o h n => ?_) (fun b h => ?_)
    · by_cases hb : b = a
      · subst hb
        rw [m] at e
        cases e
        refine .inr ⟨hna, us, ni + 1, rfl, by omega, ?_⟩
        rw [upd_same, List.append_assoc]
        unfold more
        rw [List.replicate_succ']
      · rw [upd_ne hb]
        exact gi.up (by omega) b o e
    · have hb : b ≠ a := fun z => n (z ▸ hna)
      rw [upd_ne hb]
      exact k1 b o h n
    · by_cases hb : b = a
      · subst hb; rw [upd_same]; exact fun z => nomatch z
      · rw [upd_ne hb]; exact k2 b h
end Dv
namespace Dv
open PySem PySem.Spec L2
/-! ### the defs of a text, all at once -/
theorem s_eq {X : Cx} {Φ : Pm} {l : List Stmt} {c1 c2 : S} (h : PSs X l (trS X.K Φ c1)) (e : trS X.K Φ c1 = trS X.K Φ c2) : PSs X l (trS X.K Φ c2) := e ▸ h
/-- a def that stands in the text under its name -/
def DefAt (K : PySem.W.Frag) (mg : Str → Option Value) (x : Str) (st : Stmt) (ps : List Str) : Prop := ∃ (f : Addr) (fd : FuncData), Fun K x x st f fd ∧ mg x = some (.ref f) ∧ Binds K fd ps []
section
variable {c0 : Ct0} {P : Program} {w : World} {mg : Str → Option Value} {base : Heap} {x : Str} {st : Stmt} {N ps : List Str} {k : Nat} {g : Cfg} {sg : Sig} {Φ : Pm}
theorem lift {fn : Fn} {ψ : Nat → Semx} (d : DefAt c0.K mg x st ps) (S : FnScope N ps (defScope st)) (hs : sg.io = fn.io) (hN : N.length = fn.nl) (hp : ps.length = fn.io.length) (hΦ : Sees c0 g Φ) (hx : XOk c0 g ψ Φ)
    (der : ∀ (f : Addr) (cdv : Value) (A : Around) (outer : List PySem.Env) (s : Shared) (H : Hp) (E : XK), Room k (A.deeper (PyProof.Rows.envOfC x (defScope st) s.heap.objs.size f cdv)) →
      PSs (cxOf (CXr P w) P w c0.K mg base N x (defScope st) f cdv A outer s H E) (defBody st) (trS c0.K (Φ.at E) fn.body)) : FnAt P w c0.K mg base (k + 1) x (spX c0 sg (evF g fn) (xF g ψ fn)) := by
  obtain ⟨f, fd, F, hm, hb⟩ := d
  exact fnAt F hb hm (fn_ok hΦ hx F S hs hN hp fun cdv A outer s H E hr => der f cdv A outer s H E hr)
theorem lift0 {φ : Sem'} {ψ : Semx} (d : DefAt c0.K mg x st ps) (h : ∀ ds, φ ds = none) (h2 : ∀ ds, ψ ds = none) : FnAt P w c0.K mg base k x (spX c0 sg φ ψ) := by
  obtain ⟨f, fd, F, hm, hb⟩ := d
  exact fnAt F hb hm (fn_no (spX_none h h2))
theorem spoil_lift {f0 j : Nat} (d : DefAt c0.K mg x st ps) (S : FnScope N ps (defScope st)) (hN : N.length = 2) (hp : ps.length = 1) (hf : Φ f0 = spSpoil c0 j)
    (der : ∀ (f : Addr) (cdv : Value) (A : Around) (outer : List PySem.Env) (s : Shared) (H : Hp) (E : XK), Room k (A.deeper (PyProof.Rows.envOfC x (defScope st) s.heap.objs.size f cdv)) →
      PSs (cxOf (CXr P w) P w c0.K mg base N x (defScope st) f cdv A outer s H E) (defBody st) (trS c0.K (Φ.at E) (bSpoil f0))) : FnAt P w c0.K mg base (k + 1) x (spSpoil c0 (j + 1)) := by
  obtain ⟨f, fd, F, hm, hb⟩ := d
  refine fnAt F hb hm (F.okX S (fun vs H Q E h => ?_) fun cdv A outer s H vs Q E hr h => ⟨_, der f cdv A outer s H E hr, spoil_body (Φ := Φ.at E) hf hN h⟩)
  obtain ⟨cl, M, d, v, c, _, rfl, _⟩ := h
  exact hp.symm
theorem spoil_none {φ : Nat} (d : DefAt c0.K mg x st ps) : FnAt P w c0.K mg base k x (spSpoil c0 0) := by
  obtain ⟨f, fd, F, hm, hb⟩ := d
  have no : ∀ vs H Q E, ¬ spSpoil c0 0 vs H Q E := fun vs H Q E ⟨cl, M, d, v, c, _, _, _, h, _⟩ => by cases h
  exact fnAt F hb hm ⟨fun vs H Q E h => absurd h (no vs H Q E), fun A outer s H args us vs Q E _ _ _ _ h => absurd h (no vs H Q E)⟩
/-- a name's row may be spoilt -/
def spAt (n : Nat) (Γ : Env) (i : Nat) : Bool := match Γ.at i with
  | some (d, false) => spoN n d && lenN maxLen n d && decide (sizN n d ≤ 100000)
  | _ => false
theorem spAt_ok {n i : Nat} {Γ : Env} (h : spAt n Γ i = true) : ∃ d, Γ.at i = some (d, false) ∧ spoN n d = true ∧ lenN maxLen n d = true ∧ sizN n d ≤ 100000 := by
  unfold spAt at h
  cases e : Γ.at i with
  | none => simp only [e] at h; cases h
  | some y =>
    obtain ⟨d, b⟩ := y
    simp only [e] at h
    cases b with
    | true => cases h
    | false =>
      simp only [Bool.and_eq_true, decide_eq_true_eq] at h
      exact ⟨d, rfl, h.1.1, h.1.2, h.2⟩
/-- two rows are spoilt -/
theorem spo_two {f0 n i j : Nat} {ws : List Nat} {Γ0 Γ : Env} (hf : Φ f0 = spSpoil c0 n) (h1 : spAt n Γ i = true) (h2 : spAt n Γ j = true) :
    SpoOk c0 ws (trS c0.K Φ (.seq (.ex (.call f0 (.cons (.var i) .nil))) (.ex (.call f0 (.cons (.var j) .nil))))) Γ0 Γ := by
  obtain ⟨d1, e1, a1, a2, a3⟩ := spAt_ok h1
  obtain ⟨d2, e2, b1, b2, b3⟩ := spAt_ok h2
  intro cl σ M H hc ok _ D q
  obtain ⟨v1, s1, r1⟩ := ok.slot i _ _ e1
  obtain ⟨v2, s2, r2⟩ := ok.slot j _ _ e2
  have lim : 100000 + 100000 ≤ maxLen := by decide
  refine ⟨v1, s1, ?_⟩
  show Φ f0 ([v1] ++ []) H _ Φ.xk
  rw [hf]
  refine ⟨cl, M, d1, v1, 0, hc, rfl, r1, a1, a2, Grown.same ok.sub, by omega, fun H1 g1 k1 l1 => ?_⟩
  refine ⟨v2, s2, ?_⟩
  show Φ f0 ([v2] ++ []) H1 _ Φ.xk
  rw [hf]
  refine ⟨cl, M, d2, v2, _, hc, rfl, r2, b1, b2, g1, by omega, fun H2 g2 k2 l2 => ?_⟩
  exact q σ H2 (fun a o h n => k2 a o (k1 a o h n) n) (fun a h => l2 a (l1 a h)) (fun _ _ => rfl) rfl
/-- one row is spoilt -/
theorem spo_one {f0 n i : Nat} {ws : List Nat} {Γ0 Γ : Env} (hf : Φ f0 = spSpoil c0 n) (h1 : spAt n Γ i = true) : SpoOk c0 ws (trS c0.K Φ (.ex (.call f0 (.cons (.var i) .nil)))) Γ0 Γ := by
  obtain ⟨d1, e1, a1, a2, a3⟩ := spAt_ok h1
  intro cl σ M H hc ok _ D q
  obtain ⟨v1, s1, r1⟩ := ok.slot i _ _ e1
  have lim : 100000 ≤ maxLen := by decide
  refine ⟨v1, s1, ?_⟩
  show Φ f0 ([v1] ++ []) H _ Φ.xk
  rw [hf]
  exact ⟨cl, M, d1, v1, 0, hc, rfl, r1, a1, a2, Grown.same ok.sub, by omega, fun H1 g1 k1 l1 => q σ H1 k1 l1 (fun _ _ => rfl) rfl⟩
/-- a told tuple's row may be spoilt -/
def spIx (n : Nat) (Γ : Env) (i : Nat) : Bool := match Γ.at i with
  | some (.nw (.tup [_, d]), false) => spoN n d && lenN maxLen n d && decide (sizN n d ≤ 100000)
  | _ => false
theorem spIx_ok {n i : Nat} {Γ : Env} (h : spIx n Γ i = true) : ∃ a d, Γ.at i = some (.nw (.tup [a, d]), false) ∧ spoN n d = true ∧ lenN maxLen n d = true ∧ sizN n d ≤ 100000 := by
  unfold spIx at h
  split at h
  · rename_i a d e
    simp only [Bool.and_eq_true, decide_eq_true_eq] at h
    exact ⟨a, d, e, h.1.1, h.1.2, h.2⟩
  · cases h
theorem spo_ix {f0 n i : Nat} {ws : List Nat} {Γ0 Γ : Env} (hf : Φ f0 = spSpoil c0 n) (h1 : spIx n Γ i = true) : SpoOk c0 ws (trS c0.K Φ (.ex (.call f0 (.cons (.idx (.var i) (.cst (.int 1))) .nil)))) Γ0 Γ := by
  obtain ⟨x, d1, e1, a1, a2, a3⟩ := spIx_ok h1
  intro cl σ M H hc ok _ D q
  subst hc
  obtain ⟨v1, s1, r1⟩ := ok.slot i _ _ e1
  have r1 : Rep cl M (.nw (.tup [x, d1])) v1 := r1
  have lim : 100000 ≤ maxLen := by decide
  refine ⟨v1, s1, ?_⟩
  refine idx_ok (cl := cl) (M := M) (x := .tup [x, d1]) (y := .int 1) ok.sub (r1.one ok.sub) (.inl rfl) rfl fun w rw_ => ?_
  show Φ f0 ([w] ++ []) H _ Φ.xk
  rw [hf]
  exact ⟨cl, M, d1, w, 0, rfl, rfl, rw_, a1, a2, Grown.same ok.sub, by omega, fun H1 g1 k1 l1 => q σ H1 k1 l1 (fun _ _ => rfl) rfl⟩
/-- what is promised of a def that only the evaluation knows -/
theorem SpLe.rfl' {a : Sp} : SpLe a a := fun _ _ _ _ h => h
theorem SpLe.inl {sg : Sig} {φ : Sem'} {ψ : Semx} : SpLe (spOf c0 sg φ) (spX c0 sg φ ψ) := fun _ _ _ _ h => .inl h
theorem SpLe.no {a : Sp} {sg : Sig} {φ : Sem'} (h : ∀ ds, φ ds = none) : SpLe (spOf c0 sg φ) a := fun vs H Q E ⟨cl, M, ds, _, _, _, _, _, d, b, xs, e, _⟩ => by rw [h] at e; cases e
end
end Dv
namespace Dv.Q
open PySem PySem.Spec L2
section
variable {g : Cfg} {Γ : Env}
/-! ### the evaluator's equations -/
theorem ite_iff {α : Type} {p q : Prop} [Decidable p] [Decidable q] {a b : α} (h : p ↔ q) : (if p then a else b) = if q then a else b := by
  by_cases hp : p
  · rw [if_pos hp, if_pos (h.mp hp)]
  · rw [if_neg hp, if_neg fun z => hp (h.mpr z)]
/-- an end of a range -/
def smI (j : Int) : Bool := decide (-(2 ^ 62) ≤ j ∧ j < 2 ^ 62)
@[simp] theorem smI_ok {j : Int} (h0 : 0 ≤ j) (h1 : j ≤ 16777216) : smI j = true := by
  unfold smI
  have : (16777216 : Int) < 2 ^ 62 := by decide
  have : -(2 ^ 62) ≤ (0 : Int) := by decide
  exact decide_eq_true ⟨by omega, by omega⟩
def r1 (ds : List D) (Γ : Env) : Option (List D × Env) := match ds with
      | [.int j] => if smI j = true then some (rangeD 0 j, Γ) else none
      | _ => none
def r2 (ds : List D) (Γ : Env) : Option (List D × Env) := match ds with
      | [.int i, .int j] => if smI i = true ∧ smI j = true then some (rangeD i j, Γ) else none
      | _ => none
@[simp] theorem r1_eq (j : Int) : r1 [.int j] Γ = if smI j = true then some (rangeD 0 j, Γ) else none := (rfl)
@[simp] theorem r2_eq (i j : Int) : r2 [.int i, .int j] Γ = if smI i = true ∧ smI j = true then some (rangeD i j, Γ) else none := (rfl)
/-- one turn of a comprehension -/
def turn (g : Cfg) (vs tg : List Nat) (c e : E) : D → Env → Option (Option D × Env) := fun x Γ1 => (bindT g.lk tg x Γ1).bind fun Γ2 => ((ev g c).t Γ2).bind fun b => if b.1 then
          ((ev g e).e b.2).bind fun r => (keepR g.lk r.1 r.2).map fun z => (some z.1, wipeE vs z.2) else some (none, wipeE vs b.2)

@[simp] theorem e_var (i : Nat) : (ev g (.var i)).e Γ = ((Γ.at i).map fun p => (if p.2 then .bo i else .sh p.1, Γ)) := (rfl)
@[simp] theorem t_var (i : Nat) : (ev g (.var i)).t Γ = ((ev g (.var i)).e Γ).bind fun p => (getR p.2 p.1).bind fun d => (truD d).map fun b => (b, p.2) := (rfl)
@[simp] theorem o_var (i : Nat) : (ev g (.var i)).o Γ = ((ev g (.var i)).e Γ).bind fun p => (getR p.2 p.1).bind fun d => (toI d).map fun i => (some i, p.2) := (rfl)
@[simp] theorem e_cint (z : Int) : (ev g (.cst (.int z))).e Γ = some (.sh (.int z), Γ) := (rfl)
@[simp] theorem o_cint (z : Int) : (ev g (.cst (.int z))).o Γ = some (some z, Γ) := (rfl)
@[simp] theorem e_cstr (z : Str) : (ev g (.cst (.str z))).e Γ = some (.sh (.str z), Γ) := (rfl)
@[simp] theorem e_cbl (z : Bool) : (ev g (.cst (.bl z))).e Γ = some (.sh (.bl z), Γ) := (rfl)
@[simp] theorem t_cbl (z : Bool) : (ev g (.cst (.bl z))).t Γ = some (z, Γ) := (rfl)
@[simp] theorem e_cnon  : (ev g (.cst (.non))).e Γ = some (.sh (.non), Γ) := (rfl)
@[simp] theorem e_bin (o : BOp) (a b : E) : (ev g (.bin o a b)).e Γ = ((ev2 (ev g a).e (ev g b).e Γ).bind fun p => (binD o p.1 p.2.1).map fun q => (mkR q, p.2.2)) := (rfl)
@[simp] theorem t_bin (o : BOp) (a b : E) : (ev g (.bin o a b)).t Γ = ((ev g (.bin o a b)).e Γ).bind fun p => (getR p.2 p.1).bind fun d => (truD d).map fun b => (b, p.2) := (rfl)
@[simp] theorem o_bin (o : BOp) (a b : E) : (ev g (.bin o a b)).o Γ = ((ev g (.bin o a b)).e Γ).bind fun p => (getR p.2 p.1).bind fun d => (toI d).map fun i => (some i, p.2) := (rfl)
@[simp] theorem t_cmp (o : COp) (a b : E) : (ev g (.cmp o a b)).t Γ = (ev2 (ev g a).e (ev g b).e Γ).bind fun p => (cmpD o p.1 p.2.1).map fun q => (q, p.2.2) := (rfl)
@[simp] theorem e_cmp (o : COp) (a b : E) : (ev g (.cmp o a b)).e Γ = (((ev2 (ev g a).e (ev g b).e Γ).bind fun p => (cmpD o p.1 p.2.1).map fun q => (q, p.2.2)).map fun p => (.sh (.bl p.1), p.2)) := (rfl)
@[simp] theorem t_nt (a : E) : (ev g (.nt a)).t Γ = ((ev g a).t Γ).map fun p => (!p.1, p.2) := (rfl)
@[simp] theorem e_nt (a : E) : (ev g (.nt a)).e Γ = (getB g (ev g a).e Γ).map fun p => (.sh (.bl (!p.1)), p.2) := (rfl)
@[simp] theorem e_neg (a : E) : (ev g (.neg a)).e Γ = (((ev g a).e Γ).bind fun p => (getR p.2 p.1).bind fun d => (toI d).map fun i => (.sh (.int (-i)), p.2)) := (rfl)
@[simp] theorem t_neg (a : E) : (ev g (.neg a)).t Γ = ((ev g (.neg a)).e Γ).bind fun p => (getR p.2 p.1).bind fun d => (truD d).map fun b => (b, p.2) := (rfl)
@[simp] theorem o_neg (a : E) : (ev g (.neg a)).o Γ = ((ev g (.neg a)).e Γ).bind fun p => (getR p.2 p.1).bind fun d => (toI d).map fun i => (some i, p.2) := (rfl)
@[simp] theorem t_and (a b : E) : (ev g (.and_ a b)).t Γ = ((ev g a).t Γ).bind fun p => if p.1 then (ev g b).t p.2 else some (false, p.2) := (rfl)
@[simp] theorem e_and (a b : E) : (ev g (.and_ a b)).e Γ = (getB g (ev g a).e Γ).bind fun p => if p.1 then (ev g b).e p.2 else some (.sh (.bl false), p.2) := (rfl)
@[simp] theorem t_or (a b : E) : (ev g (.or_ a b)).t Γ = ((ev g a).t Γ).bind fun p => if p.1 then some (true, p.2) else (ev g b).t p.2 := (rfl)
@[simp] theorem e_or (a b : E) : (ev g (.or_ a b)).e Γ = (getB g (ev g a).e Γ).bind fun p => if p.1 then some (.sh (.bl true), p.2) else (ev g b).e p.2 := (rfl)
@[simp] theorem e_andT (a b : E) : (ev g (.andT a b)).e Γ = (((ev g a).e Γ).bind fun p => (getR p.2 p.1).bind fun d => (truD d).bind fun c => if c then (ev g b).e p.2 else some p) := (rfl)
@[simp] theorem e_ite (c a b : E) : (ev g (.ite c a b)).e Γ = (((ev g c).t Γ).bind fun p => if p.1 then (ev g a).e p.2 else (ev g b).e p.2) := (rfl)
@[simp] theorem t_ite (c a b : E) : (ev g (.ite c a b)).t Γ = ((ev g (.ite c a b)).e Γ).bind fun p => (getR p.2 p.1).bind fun d => (truD d).map fun b => (b, p.2) := (rfl)
@[simp] theorem o_ite (c a b : E) : (ev g (.ite c a b)).o Γ = ((ev g (.ite c a b)).e Γ).bind fun p => (getR p.2 p.1).bind fun d => (toI d).map fun i => (some i, p.2) := (rfl)
@[simp] theorem a_nil  : (ev g (.nil)).a Γ = (some ([], Γ)) := (rfl)
@[simp] theorem a_cons (a r : E) : (ev g (.cons a r)).a Γ = (((ev g a).e Γ).bind fun p => ((ev g r).a p.2).map fun q => (p.1 :: q.1, q.2)) := (rfl)
@[simp] theorem e_lst (as : E) : (ev g (.lst as)).e Γ = (((ev g as).a Γ).bind fun p => (keepRs g.lk p.1 p.2).bind fun q => if q.1.length ≤ sizeLine then some (.ow (.lst q.1), q.2) else none) := (rfl)
@[simp] theorem t_lst (as : E) : (ev g (.lst as)).t Γ = ((ev g (.lst as)).e Γ).bind fun p => (getR p.2 p.1).bind fun d => (truD d).map fun b => (b, p.2) := (rfl)
@[simp] theorem o_lst (as : E) : (ev g (.lst as)).o Γ = ((ev g (.lst as)).e Γ).bind fun p => (getR p.2 p.1).bind fun d => (toI d).map fun i => (some i, p.2) := (rfl)
@[simp] theorem e_tup (as : E) : (ev g (.tup as)).e Γ = (((ev g as).a Γ).bind fun p => (keepRs g.lk p.1 p.2).bind fun q => if q.1.length ≤ sizeLine then some (.sh (.nw (.tup q.1)), q.2) else none) := (rfl)
@[simp] theorem t_tup (as : E) : (ev g (.tup as)).t Γ = ((ev g (.tup as)).e Γ).bind fun p => (getR p.2 p.1).bind fun d => (truD d).map fun b => (b, p.2) := (rfl)
@[simp] theorem o_tup (as : E) : (ev g (.tup as)).o Γ = ((ev g (.tup as)).e Γ).bind fun p => (getR p.2 p.1).bind fun d => (toI d).map fun i => (some i, p.2) := (rfl)
@[simp] theorem e_dnew  : (ev g (.dnew)).e Γ = (some (.ow (.dct [] []), Γ)) := (rfl)
@[simp] theorem t_dnew  : (ev g (.dnew)).t Γ = ((ev g (.dnew)).e Γ).bind fun p => (getR p.2 p.1).bind fun d => (truD d).map fun b => (b, p.2) := (rfl)
@[simp] theorem o_dnew  : (ev g (.dnew)).o Γ = ((ev g (.dnew)).e Γ).bind fun p => (getR p.2 p.1).bind fun d => (toI d).map fun i => (some i, p.2) := (rfl)
@[simp] theorem e_idx (a b : E) : (ev g (.idx a b)).e Γ = ((ev2 (ev g a).e (ev g b).e Γ).bind fun p => (idxD p.1 p.2.1).map fun d => (.sh d, p.2.2)) := (rfl)
@[simp] theorem t_idx (a b : E) : (ev g (.idx a b)).t Γ = ((ev g (.idx a b)).e Γ).bind fun p => (getR p.2 p.1).bind fun d => (truD d).map fun b => (b, p.2) := (rfl)
@[simp] theorem o_idx (a b : E) : (ev g (.idx a b)).o Γ = ((ev g (.idx a b)).e Γ).bind fun p => (getR p.2 p.1).bind fun d => (toI d).map fun i => (some i, p.2) := (rfl)
@[simp] theorem e_sl (a lo hi : E) : (ev g (.sl a lo hi)).e Γ = (((ev g a).e Γ).bind fun p => ((ev g lo).o p.2).bind fun l => ((ev g hi).o l.2).bind fun h => (getR h.2 p.1).bind fun d => (slD l.1 h.1 d).map fun q => (mkR q, h.2)) := (rfl)
@[simp] theorem t_sl (a lo hi : E) : (ev g (.sl a lo hi)).t Γ = ((ev g (.sl a lo hi)).e Γ).bind fun p => (getR p.2 p.1).bind fun d => (truD d).map fun b => (b, p.2) := (rfl)
@[simp] theorem o_sl (a lo hi : E) : (ev g (.sl a lo hi)).o Γ = ((ev g (.sl a lo hi)).e Γ).bind fun p => (getR p.2 p.1).bind fun d => (toI d).map fun i => (some i, p.2) := (rfl)
@[simp] theorem o_nopart : (ev g .nopart).o Γ = some (none, Γ) := (rfl)
@[simp] theorem t_nopart : (ev g .nopart).t Γ = some (true, Γ) := (rfl)
@[simp] theorem e_bi (f : Bi) (as : E) : (ev g (.bi f as)).e Γ = (((ev g as).a Γ).bind fun p => (getRs p.2 p.1).bind fun ds => (biD f ds).map fun q => (mkR q, p.2)) := (rfl)
@[simp] theorem t_bi (f : Bi) (as : E) : (ev g (.bi f as)).t Γ = ((ev g (.bi f as)).e Γ).bind fun p => (getR p.2 p.1).bind fun d => (truD d).map fun b => (b, p.2) := (rfl)
@[simp] theorem o_bi (f : Bi) (as : E) : (ev g (.bi f as)).o Γ = ((ev g (.bi f as)).e Γ).bind fun p => (getR p.2 p.1).bind fun d => (toI d).map fun i => (some i, p.2) := (rfl)
@[simp] theorem e_isi (a : E) (t : String) : (ev g (.isi a t)).e Γ = (((ev g a).e Γ).bind fun p => (getR p.2 p.1).bind fun d => (isiD t d).map fun b => (.sh (.bl b), p.2)) := (rfl)
@[simp] theorem t_isi (a : E) (t : String) : (ev g (.isi a t)).t Γ = ((ev g (.isi a t)).e Γ).bind fun p => (getR p.2 p.1).bind fun d => (truD d).map fun b => (b, p.2) := (rfl)
@[simp] theorem o_isi (a : E) (t : String) : (ev g (.isi a t)).o Γ = ((ev g (.isi a t)).e Γ).bind fun p => (getR p.2 p.1).bind fun d => (toI d).map fun i => (some i, p.2) := (rfl)
@[simp] theorem e_keysL (a : E) : (ev g (.keysL a)).e Γ = (((ev g a).e Γ).bind fun p => (getR p.2 p.1).bind fun d => (keysD d).map fun z => (.ow z, p.2)) := (rfl)
@[simp] theorem e_minD (a : E) : (ev g (.minD a)).e Γ = (((ev g a).e Γ).bind fun p => (getR p.2 p.1).bind fun d => (minDD d).map fun z => (.sh z, p.2)) := (rfl)
@[simp] theorem e_lenSet (a : E) : (ev g (.lenSet a)).e Γ = (((ev g a).e Γ).bind fun p => (getR p.2 p.1).bind fun d => (lenSetD d).map fun z => (.sh z, p.2)) := (rfl)
@[simp] theorem lenSetD_lst (ds : List D) : lenSetD (.lst ds) = (strsD ds).bind fun xs => if xs.length ≤ 4000 then some (.int (dst xs).length) else none := (rfl)
@[simp] theorem strsD_map : ∀ l : List Str, strsD (l.map D.str) = some l
  | [] => (rfl)
  | x :: l => by show (strsD (l.map D.str)).map _ = _; rw [strsD_map l]; rfl
@[simp] theorem strsD_nil : strsD [] = some [] := (rfl)
@[simp] theorem e_dsp (ks : List (Str × Str)) : (ev g (.dsp ks)).e Γ = (if dspOk ks then some (.ow (.dct (ks.map fun q => .inr q.1) (ks.map fun q => .str q.2)), Γ) else none) := (rfl)
@[simp] theorem keysD_dct (ks : List Key) (ds : List D) : keysD (.dct ks ds) = some (.lst (ks.map keyD)) := (rfl)
@[simp] theorem wkD_keys (ks : List Key) (ds : List D) : wkD .keys ks ds = ks.map keyD := (rfl)
@[simp] theorem wkD_vals (ks : List Key) (ds : List D) : wkD .vals ks ds = ds := (rfl)
@[simp] theorem e_compW (w : Wk) (vs : List Nat) (i : Nat) (tg : List Nat) (c e : E) : (ev g (.compW w vs i tg c e)).e Γ = ((dctAt Γ i).bind fun kd =>
      if vs.all (fun i => match Γ.at i with | some (_, true) => false | _ => true) ∧ tg.all (fun i => vs.contains i) ∧ vs.all (fun i => !g.lk.contains i) then
        (compL (turn g vs tg c e) (wkD w kd.1 kd.2) (wipeE vs Γ)).bind fun q =>
          if q.1.length ≤ sizeLine then some (.ow (.lst q.1), backE vs Γ q.2) else none
      else none) := (rfl)
@[simp] theorem s_par (tg : List Nat) (as : E) : evS g (.par tg as) Γ = (((ev g as).a Γ).bind fun p => (keepRs g.lk p.1 p.2).bind fun q => if tg.any (g.lk.contains ·) then none else if tg.length = 2 ∨ tg.length = 3 then (setNs tg q.1 q.2).map .nx else none) := (rfl)
@[simp] theorem s_forW (w : Wk) (i : Nat) (tg : List Nat) (b : S) : evS g (.forW w i tg b) Γ = ((dctAt Γ i).bind fun kd => forL (bindT g.lk tg) (evS g b) (wkD w kd.1 kd.2) Γ) := (rfl)
@[simp] theorem e_bm (m : Bm) (o as : E) : (ev g (.bm m o as)).e Γ = (((ev g o).e Γ).bind fun p => (getR p.2 p.1).bind fun d0 => if bmTy m d0 then ((ev g as).a p.2).bind fun q => (getR q.2 p.1).bind fun d => (getRs q.2 q.1).bind fun ds => (bmD m d ds).map fun z => (mkR z, q.2) else none) := (rfl)
@[simp] theorem t_bm (m : Bm) (o as : E) : (ev g (.bm m o as)).t Γ = ((ev g (.bm m o as)).e Γ).bind fun p => (getR p.2 p.1).bind fun d => (truD d).map fun b => (b, p.2) := (rfl)
@[simp] theorem o_bm (m : Bm) (o as : E) : (ev g (.bm m o as)).o Γ = ((ev g (.bm m o as)).e Γ).bind fun p => (getR p.2 p.1).bind fun d => (toI d).map fun i => (some i, p.2) := (rfl)
@[simp] theorem e_get1 (o k : E) : (ev g (.get1 o k)).e Γ = (((ev g o).e Γ).bind fun p => (getR p.2 p.1).bind fun d0 => if isDct d0 then ((ev g k).e p.2).bind fun q => (getR q.2 p.1).bind fun d => (getR q.2 q.1).bind fun y => (getDct d y).map fun z => (.sh (z.getD .non), q.2) else none) := (rfl)
@[simp] theorem t_get1 (o k : E) : (ev g (.get1 o k)).t Γ = ((ev g (.get1 o k)).e Γ).bind fun p => (getR p.2 p.1).bind fun d => (truD d).map fun b => (b, p.2) := (rfl)
@[simp] theorem o_get1 (o k : E) : (ev g (.get1 o k)).o Γ = ((ev g (.get1 o k)).e Γ).bind fun p => (getR p.2 p.1).bind fun d => (toI d).map fun i => (some i, p.2) := (rfl)
@[simp] theorem e_get2 (o k x : E) : (ev g (.get2 o k x)).e Γ = (((ev g o).e Γ).bind fun p => (getR p.2 p.1).bind fun d0 => if isDct d0 then ((ev g k).e p.2).bind fun q => ((ev g x).e q.2).bind fun w => (getR w.2 p.1).bind fun d => (getR w.2 q.1).bind fun y => (getDct d y).bind fun z => (keepR g.lk w.1 w.2).map fun v => (.sh (z.getD v.1), v.2) else none) := (rfl)
@[simp] theorem t_get2 (o k x : E) : (ev g (.get2 o k x)).t Γ = ((ev g (.get2 o k x)).e Γ).bind fun p => (getR p.2 p.1).bind fun d => (truD d).map fun b => (b, p.2) := (rfl)
@[simp] theorem o_get2 (o k x : E) : (ev g (.get2 o k x)).o Γ = ((ev g (.get2 o k x)).e Γ).bind fun p => (getR p.2 p.1).bind fun d => (toI d).map fun i => (some i, p.2) := (rfl)
@[simp] theorem e_mut (m : Mu) (i : Nat) (as : E) : (ev g (.mut m i as)).e Γ = (if isLst (Γ.at i) then ((ev g as).a Γ).bind fun p => (keepRs g.lk p.1 p.2).bind fun q => match q.2.at i with
      | some (d, true) => (mutD m d q.1).map fun z => (.sh z.2, q.2.set i (some (z.1, true)))
      | _ => none
    else none) := (rfl)
@[simp] theorem t_mut (m : Mu) (i : Nat) (as : E) : (ev g (.mut m i as)).t Γ = ((ev g (.mut m i as)).e Γ).bind fun p => (getR p.2 p.1).bind fun d => (truD d).map fun b => (b, p.2) := (rfl)
@[simp] theorem o_mut (m : Mu) (i : Nat) (as : E) : (ev g (.mut m i as)).o Γ = ((ev g (.mut m i as)).e Γ).bind fun p => (getR p.2 p.1).bind fun d => (toI d).map fun i => (some i, p.2) := (rfl)
@[simp] theorem e_call (f : Nat) (as : E) : (ev g (.call f as)).e Γ = (((ev g as).a Γ).bind fun p => callD g f p.1 p.2) := (rfl)
@[simp] theorem t_call (f : Nat) (as : E) : (ev g (.call f as)).t Γ = ((ev g (.call f as)).e Γ).bind fun p => (getR p.2 p.1).bind fun d => (truD d).map fun b => (b, p.2) := (rfl)
@[simp] theorem o_call (f : Nat) (as : E) : (ev g (.call f as)).o Γ = ((ev g (.call f as)).e Γ).bind fun p => (getR p.2 p.1).bind fun d => (toI d).map fun i => (some i, p.2) := (rfl)
@[simp] theorem e_comp (vs : List Nat) (it : E) (tg : List Nat) (c e : E) : (ev g (.comp vs it tg c e)).e Γ = (((ev g it).i Γ).bind fun p =>
      if vs.all (fun i => match p.2.at i with | some (_, true) => false | _ => true) ∧ tg.all (fun i => vs.contains i) ∧ vs.all (fun i => !g.lk.contains i) then
        (compL (turn g vs tg c e) p.1 (wipeE vs p.2)).bind fun q =>
          if q.1.length ≤ sizeLine then some (.ow (.lst q.1), backE vs p.2 q.2) else none
      else none) := (rfl)
@[simp] theorem t_comp (vs : List Nat) (it : E) (tg : List Nat) (c e : E) : (ev g (.comp vs it tg c e)).t Γ = ((ev g (.comp vs it tg c e)).e Γ).bind fun p => (getR p.2 p.1).bind fun d => (truD d).map fun b => (b, p.2) := (rfl)
@[simp] theorem o_comp (vs : List Nat) (it : E) (tg : List Nat) (c e : E) : (ev g (.comp vs it tg c e)).o Γ = ((ev g (.comp vs it tg c e)).e Γ).bind fun p => (getR p.2 p.1).bind fun d => (toI d).map fun i => (some i, p.2) := (rfl)
@[simp] theorem e_compV (vs : List Nat) (i : Nat) (tg : List Nat) (c e : E) : (ev g (.compV vs i tg c e)).e Γ = (match Γ.at i with
      | some (.lst ds, true) => if vs.all (fun j => match Env.at (Γ.set i none) j with | some (_, true) => false | _ => true) ∧ tg.all (fun i => vs.contains i) ∧ vs.all (fun i => !g.lk.contains i) then
        (compL (turn g vs tg c e) ds (wipeE vs (Γ.set i none))).bind fun q =>
          if q.1.length ≤ sizeLine then some (.ow (.lst q.1), (backE vs (Γ.set i none) q.2).set i (some (.lst ds, true))) else none
      else none
      | _ => none) := (rfl)
@[simp] theorem t_compV (vs : List Nat) (i : Nat) (tg : List Nat) (c e : E) : (ev g (.compV vs i tg c e)).t Γ = ((ev g (.compV vs i tg c e)).e Γ).bind fun p => (getR p.2 p.1).bind fun d => (truD d).map fun b => (b, p.2) := (rfl)
@[simp] theorem o_compV (vs : List Nat) (i : Nat) (tg : List Nat) (c e : E) : (ev g (.compV vs i tg c e)).o Γ = ((ev g (.compV vs i tg c e)).e Γ).bind fun p => (getR p.2 p.1).bind fun d => (toI d).map fun i => (some i, p.2) := (rfl)
@[simp] theorem e_fld (cs : List Nat) (o : E) (f : Str) : (ev g (.fld cs o f)).e Γ = (((ev g o).e Γ).bind fun p => (getR p.2 p.1).bind fun d => (fldD cs f d).map fun z => (.sh z, p.2)) := (rfl)
@[simp] theorem t_fld (cs : List Nat) (o : E) (f : Str) : (ev g (.fld cs o f)).t Γ = ((ev g (.fld cs o f)).e Γ).bind fun p => (getR p.2 p.1).bind fun d => (truD d).map fun b => (b, p.2) := (rfl)
@[simp] theorem o_fld (cs : List Nat) (o : E) (f : Str) : (ev g (.fld cs o f)).o Γ = ((ev g (.fld cs o f)).e Γ).bind fun p => (getR p.2 p.1).bind fun d => (toI d).map fun i => (some i, p.2) := (rfl)
@[simp] theorem e_new (c f : Nat) (as : E) : (ev g (.new c f as)).e Γ = (((ev g as).a Γ).bind fun p => newD g c f p.1 p.2) := (rfl)
@[simp] theorem e_meth (m : Str) (tbl : List (Nat × Nat)) (o as : E) : (ev g (.meth m tbl o as)).e Γ = (((ev g o).e Γ).bind fun p => (getR p.2 p.1).bind fun d => (methD m tbl d).bind fun f => ((ev g as).a p.2).bind fun q => callD g f (p.1 :: q.1) q.2) := (rfl)
@[simp] theorem t_meth (m : Str) (tbl : List (Nat × Nat)) (o as : E) : (ev g (.meth m tbl o as)).t Γ = ((ev g (.meth m tbl o as)).e Γ).bind fun p => (getR p.2 p.1).bind fun d => (truD d).map fun b => (b, p.2) := (rfl)
@[simp] theorem o_meth (m : Str) (tbl : List (Nat × Nat)) (o as : E) : (ev g (.meth m tbl o as)).o Γ = ((ev g (.meth m tbl o as)).e Γ).bind fun p => (getR p.2 p.1).bind fun d => (toI d).map fun i => (some i, p.2) := (rfl)
@[simp] theorem i_itRev (as : E) : (ev g (.itRev as)).i Γ = (((ev g as).a Γ).bind fun p => (keepRs g.lk p.1 p.2).bind fun q => match q.1.map D.un with
      | [.lst ds] => some (ds.reverse, q.2)
      | _ => none) := (rfl)
@[simp] theorem s_setF (i : Nat) (cs : List Nat) (f : Str) (e : E) : evS g (.setF i cs f e) Γ = (((ev g e).e Γ).bind fun p => (keepR g.lk p.1 p.2).bind fun q => (match Env.at q.2 i with
    | some (d, true) => (setFD cs f q.1 d).map fun d' => .nx (q.2.set i (some (d', true)))
    | _ => none)) := (rfl)
@[simp] theorem s_augF (i : Nat) (cs : List Nat) (f : Str) (e : E) : evS g (.augF i cs f e) Γ = (match Env.at Γ i with
    | some (d0, true) => (fldD cs f d0).bind fun z0 => (toI z0).bind fun x => ((ev g e).e Γ).bind fun p => (getR p.2 p.1).bind fun z => (toI z).bind fun y => (match Env.at p.2 i with
      | some (d, true) => (setFD cs f (.int (x + y)) d).map fun d' => .nx (p.2.set i (some (d', true)))
      | _ => none)
    | _ => none) := (rfl)
@[simp] theorem fld_obj (cs : List Nat) (f : Str) (c : Nat) (ns : List Str) (xs : List D) : fldD cs f (.obj c ns xs) = if c ∈ cs then valN ns xs f else none := (rfl)
@[simp] theorem setF_obj (cs : List Nat) (f : Str) (y : D) (c : Nat) (ns : List Str) (xs : List D) : setFD cs f y (.obj c ns xs) = if c ∈ cs ∧ ns.length < 1000 then some (.obj c (putN ns xs f y).1 (putN ns xs f y).2) else none := (rfl)
@[simp] theorem meth_obj (m : Str) (tbl : List (Nat × Nat)) (c : Nat) (ns : List Str) (xs : List D) : methD m tbl (.obj c ns xs) = if m ∈ ns then none else tbl.lookup c := (rfl)
@[simp] theorem valN_cons (k : Str) (ks : List Str) (d : D) (ds : List D) (x : Str) : valN (k :: ks) (d :: ds) x = if k = x then some d else valN ks ds x := (rfl)
@[simp] theorem valN_nil (x : Str) : valN [] [] x = none := (rfl)
@[simp] theorem putN_cons (k : Str) (ks : List Str) (d : D) (ds : List D) (x : Str) (y : D) : putN (k :: ks) (d :: ds) x y = if k = x then (k :: ks, y :: ds) else (k :: (putN ks ds x y).1, d :: (putN ks ds x y).2) := (rfl)
@[simp] theorem putN_nil (x : Str) (y : D) : putN [] [] x y = ([x], [y]) := (rfl)
@[simp] theorem un_obj (c : Nat) (ns : List Str) (xs : List D) : (D.obj c ns xs).un = .obj c ns xs := (rfl)
@[simp] theorem i_itL (e : E) : (ev g (.itL e)).i Γ = (((ev g e).e Γ).bind fun p => (keepR g.lk p.1 p.2).bind fun q => match q.1.un with
      | .lst ds => some (ds, q.2)
      | .scr ns => some (ns.map .int, q.2)
      | _ => none) := (rfl)
@[simp] theorem i_itT (e : E) : (ev g (.itT e)).i Γ = (((ev g e).e Γ).bind fun p => (keepR g.lk p.1 p.2).bind fun q => match q.1.un with
      | .tup ds => some (ds, q.2)
      | _ => none) := (rfl)
@[simp] theorem i_itR1 (as : E) : (ev g (.itR1 as)).i Γ = ((ev g as).a Γ).bind fun p => (getRs p.2 p.1).bind fun ds => r1 ds p.2 := by
  have h : ∀ ds Γ, r1 ds Γ = (match ds with
      | [.int j] => if -(2 ^ 62) ≤ j ∧ j < 2 ^ 62 then some (rangeD 0 j, Γ) else none
      | _ => none) := fun ds Γ => by
    unfold r1
    split
    · exact ite_iff (by unfold smI; exact decide_eq_true_iff)
    · rfl
  simp only [h]
  rfl
@[simp] theorem i_itR2 (as : E) : (ev g (.itR2 as)).i Γ = ((ev g as).a Γ).bind fun p => (getRs p.2 p.1).bind fun ds => r2 ds p.2 := by
  have h : ∀ ds Γ, r2 ds Γ = (match ds with
      | [.int i, .int j] => if -(2 ^ 62) ≤ i ∧ i < 2 ^ 62 ∧ -(2 ^ 62) ≤ j ∧ j < 2 ^ 62 then some (rangeD i j, Γ) else none
      | _ => none) := fun ds Γ => by
    unfold r2
    split
    · refine ite_iff ?_
      unfold smI
      constructor
      · rintro ⟨h1, h2⟩
        have h1 := of_decide_eq_true h1
        have h2 := of_decide_eq_true h2
        exact ⟨h1.1, h1.2, h2.1, h2.2⟩
      · rintro ⟨h1, h2, h3, h4⟩
        exact ⟨decide_eq_true ⟨h1, h2⟩, decide_eq_true ⟨h3, h4⟩⟩
    · rfl
  simp only [h]
  rfl
@[simp] theorem i_itE (as : E) : (ev g (.itE as)).i Γ = (((ev g as).a Γ).bind fun p => (keepRs g.lk p.1 p.2).bind fun q => match q.1.map D.un with
      | [.lst ds] => some (ds.zipIdx.map (fun x => .tup [.int x.2, x.1]), q.2)
      | [.scr ns] => some (ns.zipIdx.map (fun x => .tup [.int x.2, .int x.1]), q.2)
      | _ => none) := (rfl)
@[simp] theorem s_skip  : evS g .skip Γ = (some (.nx Γ)) := (rfl)
@[simp] theorem s_seq (a b : S) : evS g (.seq a b) Γ = ((evS g a Γ).bind fun o => match o with
    | .nx Γ1 => evS g b Γ1
    | o => some o) := (rfl)
@[simp] theorem s_set (i : Nat) (e : E) : evS g (.set i e) Γ = (((ev g e).e Γ).bind fun p => (setR g.lk i p.1 p.2).map .nx) := (rfl)
@[simp] theorem s_setk (i : Nat) (e : E) : evS g (.setk i e) Γ = (((ev g e).e Γ).bind fun p => (setkR g.lk i p.1 p.2).map .nx) := (rfl)
@[simp] theorem s_unp (tg : List Nat) (e : E) : evS g (.unp tg e) Γ = (((ev g e).e Γ).bind fun p => (keepR g.lk p.1 p.2).bind fun q => if tg.any (g.lk.contains ·) then none else match q.1.un with
    | .tup ds => (setNs tg ds q.2).map .nx
    | _ => none) := (rfl)
@[simp] theorem s_setI (o i e : E) : evS g (.setI o i e) Γ = (((ev g e).e Γ).bind fun p => (keepR g.lk p.1 p.2).bind fun q => ((ev g o).e q.2).bind fun x => ((ev g i).e x.2).bind fun y => match x.1 with
    | .bo j => (match y.2.at j with
      | some (d, true) => (getR y.2 y.1).bind fun k => (setD d k q.1).map fun d' => .nx (y.2.set j (some (d', true)))
      | _ => none)
    | _ => none) := (rfl)
@[simp] theorem s_ex (e : E) : evS g (.ex e) Γ = (((ev g e).e Γ).map fun p => .nx p.2) := (rfl)
@[simp] theorem s_ret (e : E) : evS g (.ret e) Γ = (((ev g e).e Γ).bind fun p => retR g.lk p.1 p.2) := (rfl)
@[simp] theorem s_retN  : evS g .retN Γ = (some (.rt .non false Γ)) := (rfl)
@[simp] theorem s_ite (c : E) (a b : S) : evS g (.ite c a b) Γ = (((ev g c).t Γ).bind fun p => if p.1 then evS g a p.2 else evS g b p.2) := (rfl)
@[simp] theorem s_for_ (it : E) (tg : List Nat) (b : S) : evS g (.for_ it tg b) Γ = (((ev g it).i Γ).bind fun p => forL (bindT g.lk tg) (evS g b) p.1 p.2) := (rfl)
@[simp] theorem s_forV (i : Nat) (tg : List Nat) (b : S) : evS g (.forV i tg b) Γ = ((match Γ.at i with
    | some (.lst ds, true) => (forL (bindT (i :: g.lk) tg) (evS { g with lk := i :: g.lk } b) ds (Γ.set i none)).map (Out.put i (some (.lst ds, true)))
    | _ => none)) := (rfl)
@[simp] theorem s_scope (ws : List Nat) (b u : S) : evS g (.scope ws b u) Γ = (scopeS g.lk ws (g.sp ws u) (fun lk => evS { g with lk := lk } b) Γ) := (rfl)
@[simp] theorem s_whl (c : E) (b : S) : evS g (.whl c b) Γ = (whlL (ev g c).t (evS g b) g.fuel Γ) := (rfl)
@[simp] theorem s_brk  : evS g .brk Γ = (some (.bk Γ)) := (rfl)
@[simp] theorem s_cnt  : evS g .cnt Γ = (some (.ct Γ)) := (rfl)
@[simp] theorem s_never  : evS g .never Γ = (none) := (rfl)
@[simp] theorem s_aug (i : Nat) (e : E) : evS g (.aug i .add e) Γ = ((ev g e).e Γ).bind fun p => if i ∈ g.lk ∨ ¬ i < p.2.length then none else (match Γ.at i with
    | some (.int x, false) => (getR p.2 p.1).bind fun d => (toI d).bind fun y => some (.nx (p.2.set i (some (.int (x + y), false))))
    | _ => none) := (rfl)
@[simp] theorem at_eq (i : Nat) : Env.at Γ i = (Γ[i]?).join := (rfl)
/-! ### the helpers' equations -/
@[simp] theorem un_nw (d : D) : (D.nw d).un = d.un := (rfl)
@[simp] theorem un_non : D.non.un = .non := (rfl)
@[simp] theorem un_bl (b : Bool) : (D.bl b).un = .bl b := (rfl)
@[simp] theorem un_int (b : Int) : (D.int b).un = .int b := (rfl)
@[simp] theorem un_str (b : Str) : (D.str b).un = .str b := (rfl)
@[simp] theorem un_lst (b : List D) : (D.lst b).un = .lst b := (rfl)
@[simp] theorem un_tup (b : List D) : (D.tup b).un = .tup b := (rfl)
@[simp] theorem un_dct (k : List Key) (b : List D) : (D.dct k b).un = .dct k b := (rfl)
@[simp] theorem un_scr (b : List Int) : (D.scr b).un = .scr b := (rfl)
@[simp] theorem getR_sh (d : D) : getR Γ (.sh d) = some d.un := (rfl)
@[simp] theorem getR_ow (d : D) : getR Γ (.ow d) = some d := (rfl)
@[simp] theorem getR_bo (i : Nat) : getR Γ (.bo i) = ((Γ[i]?).join).map (·.1.un) := (rfl)
@[simp] theorem getRs_nil : getRs Γ [] = some [] := (rfl)
@[simp] theorem getRs_cons (r : R) (rs : List R) : getRs Γ (r :: rs) = (getR Γ r).bind fun d => (getRs Γ rs).map (d :: ·) := by
  unfold getRs
  rw [List.mapM_cons]
  cases getR Γ r <;> try rfl
  cases List.mapM (getR Γ) rs <;> rfl
@[simp] theorem keepR_sh (lk : List Nat) (d : D) : keepR lk (.sh d) Γ = some (d, Γ) := (rfl)
@[simp] theorem keepR_ow (lk : List Nat) (d : D) : keepR lk (.ow d) Γ = some (.nw d, Γ) := (rfl)
@[simp] theorem keepR_bo (lk : List Nat) (i : Nat) : keepR lk (.bo i) Γ = (frz lk i Γ).bind fun Γ' => ((Γ'[i]?).join).map fun p => (p.1, Γ') := (rfl)
@[simp] theorem keepRs_nil (lk : List Nat) : keepRs lk [] Γ = some ([], Γ) := (rfl)
@[simp] theorem keepRs_cons (lk : List Nat) (r : R) (rs : List R) : keepRs lk (r :: rs) Γ = (keepR lk r Γ).bind fun p => (keepRs lk rs p.2).map fun q => (p.1 :: q.1, q.2) := (rfl)
@[simp] theorem mkR_t (d : D) : mkR (d, true) = .ow d := (rfl)
@[simp] theorem mkR_f (d : D) : mkR (d, false) = .sh d := (rfl)
@[simp] theorem getB_eq (x : Env → Option (R × Env)) : getB g x Γ = (x Γ).bind fun p => (getR p.2 p.1).bind fun d => (toB d).map fun b => (b, p.2) := (rfl)
@[simp] theorem toB_bl (b : Bool) : toB (.bl b) = some b := (rfl)
@[simp] theorem toI_int (b : Int) : toI (.int b) = some b := (rfl)
@[simp] theorem truD_bl (b : Bool) : truD (.bl b) = some b := (rfl)
@[simp] theorem ev2_eq (x y : Env → Option (R × Env)) : ev2 x y Γ = (x Γ).bind fun p => (y p.2).bind fun q => (getR q.2 p.1).bind fun d => (getR q.2 q.1).map fun d' => (d, d', q.2) := (rfl)
@[simp] theorem setR_sh (lk : List Nat) (i : Nat) (d : D) : setR lk i (.sh d) Γ = if i < Γ.length ∧ i ∉ lk then some (Γ.set i (some (d, false))) else none := (rfl)
@[simp] theorem setR_ow (lk : List Nat) (i : Nat) (d : D) : setR lk i (.ow d) Γ = if i < Γ.length ∧ i ∉ lk then some (Γ.set i (some (d, true))) else none := (rfl)
@[simp] theorem setR_bo (lk : List Nat) (i j : Nat) : setR lk i (.bo j) Γ = if i < Γ.length ∧ i ∉ lk then (keepR lk (.bo j) Γ).map fun p => p.2.set i (some (p.1, false)) else none := (rfl)
@[simp] theorem setkR_eq (lk : List Nat) (i : Nat) (r : R) : setkR lk i r Γ = if i < Γ.length ∧ i ∉ lk then (keepR lk r Γ).map fun p => p.2.set i (some (p.1, false)) else none := (rfl)
@[simp] theorem retR_sh (lk : List Nat) (d : D) : retR lk (.sh d) Γ = some (.rt d false Γ) := (rfl)
@[simp] theorem retR_ow (lk : List Nat) (d : D) : retR lk (.ow d) Γ = some (.rt d true Γ) := (rfl)
@[simp] theorem retR_bo (lk : List Nat) (i : Nat) : retR lk (.bo i) Γ = ((Γ[i]?).join).bind fun p => if p.2 then (if i ∈ lk then none else some (.rt p.1 true (Γ.set i none))) else some (.rt p.1 false Γ) := (rfl)
@[simp] theorem isLst_y (xs : List D) : isLst (some (.lst xs, true)) = true := (rfl)
@[simp] theorem isDct_y (ks : List Key) (xs : List D) : isDct (.dct ks xs) = true := (rfl)
@[simp] theorem mut_append (ds : List D) (x : D) : mutD .append (.lst ds) [x] = if ds.length < sizeLine then some (.lst (ds ++ [x]), .non) else none := (rfl)
@[simp] theorem mut_extend (ds es : List D) : mutD .extend (.lst ds) [.lst es] = if ds.length + es.length ≤ sizeLine then some (.lst (ds ++ es), .non) else none := (rfl)
@[simp] theorem mut_extendn (ds es : List D) : mutD .extend (.lst ds) [.nw (.lst es)] = if ds.length + es.length ≤ sizeLine then some (.lst (ds ++ es), .non) else none := (rfl)
@[simp] theorem mut_pop (ds : List D) : mutD .pop (.lst ds) [] = ds.getLast?.map fun x => (.lst ds.dropLast, x) := (rfl)
@[simp] theorem mut_clear (ds : List D) : mutD .clear (.lst ds) [] = some (.lst [], .non) := (rfl)
@[simp] theorem bi_len (x : D) : biD .len [x] = (lenD x).map fun (n : Nat) => (D.int (n : Int), false) := (rfl)
@[simp] theorem len_lst (ds : List D) : lenD (.lst ds) = some ds.length := (rfl)
@[simp] theorem len_tup (ds : List D) : lenD (.tup ds) = some ds.length := (rfl)
@[simp] theorem len_scr (ns : List Int) : lenD (.scr ns) = some ns.length := (rfl)
@[simp] theorem len_str (s : Str) : lenD (.str s) = if s.length ≤ sizeLine then some s.length else none := (rfl)
@[simp] theorem len_dct (ks : List Key) (ds : List D) : lenD (.dct ks ds) = some ks.length := (rfl)
@[simp] theorem bin_addi (i j : Int) : binD .add (.int i) (.int j) = some (.int (i + j), false) := (rfl)
@[simp] theorem bin_adds (s t : Str) : binD .add (.str s) (.str t) = if s.length + t.length ≤ sizeLine then some (.str (s ++ t), false) else none := (rfl)
@[simp] theorem bin_addl (xs ys : List D) : binD .add (.lst xs) (.lst ys) = if xs.length + ys.length ≤ sizeLine then some (.lst (xs ++ ys), true) else none := (rfl)
@[simp] theorem bin_sub (i j : Int) : binD .sub (.int i) (.int j) = some (.int (i - j), false) := (rfl)
@[simp] theorem bin_mul (i j : Int) : binD .mul (.int i) (.int j) = if mulI i j then some (.int (i * j), false) else none := (rfl)
/-- what may be divided by -/
def dvI (j : Int) : Bool := decide (0 < j ∧ j.natAbs.log2 < 9000)
@[simp] theorem dvI_ok {j : Int} (h0 : 0 < j) (h1 : j ≤ 4294967296) : dvI j = true := by
  unfold dvI
  refine decide_eq_true ⟨h0, ?_⟩
  have h2 : j.natAbs ≠ 0 := by omega
  have h3 : 2 ^ j.natAbs.log2 ≤ j.natAbs := Nat.log2_self_le h2
  by_cases c : j.natAbs.log2 < 9000
  · exact c
  · have h4 : 2 ^ 33 ≤ 2 ^ j.natAbs.log2 := Nat.pow_le_pow_right (by decide) (by omega)
    have h5 : 2 ^ 33 ≤ j.natAbs := Nat.le_trans h4 h3
    have h6 : (2 : Nat) ^ 33 = 8589934592 := by decide
    omega
@[simp] theorem bin_fdiv (i j : Int) : binD .fdiv (.int i) (.int j) = if dvI j = true then some (.int (i / j), false) else none := by
  show (if 0 < j ∧ j.natAbs.log2 < 9000 then _ else _) = _
  exact ite_iff (by unfold dvI; exact decide_eq_true_iff.symm)
@[simp] theorem mulI_r {a b : Int} (h : -4294967296 < b) (h2 : b < 4294967296) : mulI a b = true := by
  have e : (2 ^ 64 : Int) = 18446744073709551616 := by decide
  simp only [mulI, e, Bool.or_eq_true, Bool.and_eq_true, decide_eq_true_eq]
  right
  omega
theorem mulI_l {a b : Int} (h : -4294967296 < a) (h2 : a < 4294967296) : mulI a b = true := by
  have e : (2 ^ 64 : Int) = 18446744073709551616 := by decide
  simp only [mulI, e, Bool.or_eq_true, Bool.and_eq_true, decide_eq_true_eq]
  left
  omega
theorem mulI_mod {a b p : Int} (h : 0 < p) (h2 : p ≤ 4294967296) : mulI (a % p) b = true := by
  have h3 := Int.emod_nonneg a (by omega : p ≠ 0)
  have h4 := Int.emod_lt_of_pos a h
  exact mulI_l (by omega) (by omega)
@[simp] theorem bin_mod (i j : Int) : binD .mod (.int i) (.int j) = if 0 < j then some (.int (i % j), false) else none := (rfl)
@[simp] theorem idx_lst (ds : List D) (i : Int) : idxD (.lst ds) (.int i) = atI ds i := (rfl)
@[simp] theorem idx_tup (ds : List D) (i : Int) : idxD (.tup ds) (.int i) = atI ds i := (rfl)
@[simp] theorem idx_scr (ns : List Int) (i : Int) : idxD (.scr ns) (.int i) = (atI ns i).map .int := (rfl)
@[simp] theorem idx_dcts (ks : List Key) (ds : List D) (s : Str) : idxD (.dct ks ds) (.str s) = valD ks ds (.inr s) := (rfl)
@[simp] theorem idx_dcti (ks : List Key) (ds : List D) (s : Int) : idxD (.dct ks ds) (.int s) = valD ks ds (.inl s) := (rfl)
theorem atI_of {α : Type} (xs : List α) (n : Nat) : atI xs (n : Int) = xs[n]? := by
  unfold atI ixN
  rw [if_pos (Int.natCast_nonneg n)]
  by_cases h : n < xs.length
  · rw [if_pos (by omega)]
    rfl
  · rw [if_neg (by omega), List.getElem?_eq_none (by omega)]
    rfl
@[simp] theorem atI_0 {α : Type} (x : α) (l : List α) : atI (x :: l) 0 = some x := atI_of (x :: l) 0
@[simp] theorem atI_1 {α : Type} (x y : α) (l : List α) : atI (x :: y :: l) 1 = some y := atI_of (x :: y :: l) 1
@[simp] theorem atI_2 {α : Type} (x y z : α) (l : List α) : atI (x :: y :: z :: l) 2 = some z := atI_of (x :: y :: z :: l) 2
@[simp] theorem sl_lst (lo hi : Option Int) (ds : List D) : slD lo hi (.lst ds) = some (.lst (cutL ds lo hi), true) := (rfl)
@[simp] theorem sl_scr (lo hi : Option Int) (ds : List Int) : slD lo hi (.scr ds) = some (.lst (cutL (ds.map .int) lo hi), true) := (rfl)
@[simp] theorem sl_str (lo hi : Option Int) (s : Str) : slD lo hi (.str s) = if s.length ≤ sizeLine then some (.str (cutS s lo hi), false) else none := (rfl)
@[simp] theorem cmp_eq (x y : D) : cmpD .eq x y = eqD x y := (rfl)
@[simp] theorem cmp_ne (x y : D) : cmpD .ne x y = (eqD x y).map not := (rfl)
@[simp] theorem cmp_lt (i j : Int) : cmpD .lt (.int i) (.int j) = some (decide (i < j)) := (rfl)
@[simp] theorem cmp_le (i j : Int) : cmpD .le (.int i) (.int j) = some (decide (i ≤ j)) := (rfl)
@[simp] theorem cmp_gt (i j : Int) : cmpD .gt (.int i) (.int j) = some (decide (j < i)) := (rfl)
@[simp] theorem cmp_ge (i j : Int) : cmpD .ge (.int i) (.int j) = some (decide (j ≤ i)) := (rfl)
@[simp] theorem cmp_in (x y : D) : cmpD .isin x y = inD x y := (rfl)
@[simp] theorem cmp_notin (x y : D) : cmpD .notin x y = (inD x y).map not := (rfl)
@[simp] theorem eq_int (i j : Int) : eqD (.int i) (.int j) = some (decide (i = j)) := by
  show some (decide (V.int i = V.int j)) = _
  by_cases h : i = j <;> simp [h]
@[simp] theorem eq_str (i j : Str) : eqD (.str i) (.str j) = some (decide (i = j)) := by
  show some (decide (V.str i = V.str j)) = _
  by_cases h : i = j <;> simp [h]
@[simp] theorem in_dct (s : Str) (ks : List Key) (ds : List D) : inD (.str s) (.dct ks ds) = some (valD ks ds (.inr s)).isSome := (rfl)
@[simp] theorem in_dcti (s : Int) (ks : List Key) (ds : List D) : inD (.int s) (.dct ks ds) = some (valD ks ds (.inl s)).isSome := (rfl)
theorem fls_strs : ∀ ss : List Str, fls (ss.map D.str) = some (ss.map V.str)
  | [] => rfl
  | s :: ss => by
    unfold fls at *
    rw [List.map_cons, List.mapM_cons]
    have := fls_strs ss
    unfold fls at this
    rw [this]
    rfl
@[simp] theorem wipe_nil : wipeE [] Γ = Γ := (rfl)
@[simp] theorem wipe_cons (i : Nat) (vs : List Nat) : wipeE (i :: vs) Γ = wipeE vs (Γ.set i none) := (rfl)
@[simp] theorem back_nil (Γ0 : Env) : backE [] Γ0 Γ = Γ := (rfl)
@[simp] theorem back_cons (i : Nat) (vs : List Nat) (Γ0 : Env) : backE (i :: vs) Γ0 Γ = backE vs Γ0 (Γ.set i (Γ0[i]?.join)) := (rfl)
@[simp] theorem bindT_1 (lk : List Nat) (i : Nat) (d : D) : bindT lk [i] d Γ = if lk.contains i = true then none else if i < Γ.length then some (Γ.set i (some (d, false))) else none := by
  unfold bindT
  simp
@[simp] theorem bindT_2 (lk : List Nat) (i j : Nat) (d : D) : bindT lk [i, j] d Γ = if (lk.contains i || lk.contains j) = true then none else tupT [i, j] d Γ := by
  unfold bindT
  simp
@[simp] theorem tupT_2 (i j : Nat) (a b : D) : tupT [i, j] (.tup [a, b]) Γ = if i < Γ.length then (if j < (Γ.set i (some (a, false))).length then some ((Γ.set i (some (a, false))).set j (some (b, false))) else none) else none := (rfl)
@[simp] theorem tupT_nw (is : List Nat) (d : D) : tupT is (.nw d) Γ = tupT is d Γ := (rfl)
@[simp] theorem forL_nil (bd : D → Env → Option Env) (body : Env → Option Out) : forL bd body [] Γ = some (.nx Γ) := (rfl)
@[simp] theorem forL_cons (bd : D → Env → Option Env) (body : Env → Option Out) (x : D) (xs : List D) : forL bd body (x :: xs) Γ = (bd x Γ).bind fun Γ1 => (body Γ1).bind fun o => match o with
    | .nx Γ2 => forL bd body xs Γ2
    | .ct Γ2 => forL bd body xs Γ2
    | .bk Γ2 => some (.nx Γ2)
    | .rt d b Γ2 => some (.rt d b Γ2) := (rfl)
@[simp] theorem compL_nil (tb : D → Env → Option (Option D × Env)) : compL tb [] Γ = some ([], Γ) := (rfl)
@[simp] theorem compL_cons (tb : D → Env → Option (Option D × Env)) (x : D) (xs : List D) : compL tb (x :: xs) Γ = (tb x Γ).bind fun p => (compL tb xs p.2).map fun q => (p.1.toList ++ q.1, q.2) := (rfl)
@[simp] theorem frz_eq (lk : List Nat) (i : Nat) : frz lk i Γ = match (Γ[i]?).join with
  | some (d, true) => if i ∈ lk then none else some (Γ.set i (some (.nw d, false)))
  | some (_, false) => some Γ
  | none => none := (rfl)
@[simp] theorem aF_nil (lk : List Nat) : argsF lk [] [] Γ = some Γ := (rfl)
@[simp] theorem aF_sh (lk : List Nat) (b : Bool) (io : List Bool) (d : D) (rs : List R) : argsF lk (b :: io) (.sh d :: rs) Γ = argsF lk io rs Γ := by cases b <;> rfl
@[simp] theorem aF_ow (lk : List Nat) (b : Bool) (io : List Bool) (d : D) (rs : List R) : argsF lk (b :: io) (.ow d :: rs) Γ = argsF lk io rs Γ := by cases b <;> rfl
@[simp] theorem aF_bot (lk : List Nat) (io : List Bool) (i : Nat) (rs : List R) : argsF lk (true :: io) (.bo i :: rs) Γ = argsF lk io rs Γ := (rfl)
@[simp] theorem aF_bof (lk : List Nat) (io : List Bool) (i : Nat) (rs : List R) : argsF lk (false :: io) (.bo i :: rs) Γ = (frz lk i Γ).bind (argsF lk io rs) := (rfl)
@[simp] theorem aO_nil : argsOk Γ [] [] = true := (rfl)
@[simp] theorem aO_f (io : List Bool) (r : R) (rs : List R) : argsOk Γ (false :: io) (r :: rs) = argsOk Γ io rs := by cases r <;> rfl
@[simp] theorem aO_ow (io : List Bool) (d : D) (rs : List R) : argsOk Γ (true :: io) (.ow d :: rs) = argsOk Γ io rs := (rfl)
@[simp] theorem aO_bo (io : List Bool) (i : Nat) (rs : List R) : argsOk Γ (true :: io) (.bo i :: rs) = ((match (Γ[i]?).join with | some (_, b) => b | none => false) && argsOk Γ io rs) := (rfl)
@[simp] theorem aR_nil : argRs Γ [] [] = some [] := (rfl)
@[simp] theorem aR_cons (b : Bool) (io : List Bool) (r : R) (rs : List R) : argRs Γ (b :: io) (r :: rs) = (argR Γ b r).bind fun d => (argRs Γ io rs).map (d :: ·) := (rfl)
@[simp] theorem ar_sh (b : Bool) (d : D) : argR Γ b (.sh d) = some d := by cases b <;> rfl
@[simp] theorem ar_owf (d : D) : argR Γ false (.ow d) = some (.nw d) := (rfl)
@[simp] theorem ar_owt (d : D) : argR Γ true (.ow d) = some d := (rfl)
@[simp] theorem ar_bo (b : Bool) (i : Nat) : argR Γ b (.bo i) = ((Γ[i]?).join).map (·.1) := by cases b <;> rfl
@[simp] theorem iv_nil : ioVars [] [] = [] := (rfl)
@[simp] theorem iv_f (io : List Bool) (r : R) (rs : List R) : ioVars (false :: io) (r :: rs) = ioVars io rs := by cases r <;> rfl
@[simp] theorem iv_sh (b : Bool) (io : List Bool) (d : D) (rs : List R) : ioVars (b :: io) (.sh d :: rs) = ioVars io rs := by cases b <;> rfl
@[simp] theorem iv_ow (b : Bool) (io : List Bool) (d : D) (rs : List R) : ioVars (b :: io) (.ow d :: rs) = ioVars io rs := by cases b <;> rfl
@[simp] theorem iv_bo (io : List Bool) (i : Nat) (rs : List R) : ioVars (true :: io) (.bo i :: rs) = i :: ioVars io rs := (rfl)
@[simp] theorem pI_nil (ds : List D) : putIos [] [] ds Γ = Γ := (rfl)
@[simp] theorem pI_f (io : List Bool) (r : R) (rs : List R) (ds : List D) : putIos (false :: io) (r :: rs) ds Γ = putIos io rs ds Γ := by cases r <;> rfl
@[simp] theorem pI_bo (io : List Bool) (i : Nat) (rs : List R) (d : D) (ds : List D) : putIos (true :: io) (.bo i :: rs) (d :: ds) Γ = putIos io rs ds (Γ.set i (some (d, true))) := (rfl)
@[simp] theorem lk_eq (io : List Bool) : lkOf io = lkFrom 0 io := (rfl)
@[simp] theorem lk_nil (k : Nat) : lkFrom k [] = [] := (rfl)
@[simp] theorem lk_t (k : Nat) (io : List Bool) : lkFrom k (true :: io) = k :: lkFrom (k + 1) io := (rfl)
@[simp] theorem lk_f (k : Nat) (io : List Bool) : lkFrom k (false :: io) = lkFrom (k + 1) io := (rfl)
@[simp] theorem ios_eq (io : List Bool) : iosOf io Γ = iosFrom 0 io Γ := (rfl)
@[simp] theorem ios_nil (k : Nat) : iosFrom k [] Γ = some [] := (rfl)
@[simp] theorem ios_f (k : Nat) (io : List Bool) : iosFrom k (false :: io) Γ = iosFrom (k + 1) io Γ := (rfl)
@[simp] theorem ios_t (k : Nat) (io : List Bool) : iosFrom k (true :: io) Γ = (match (Γ[k]?).join with
    | some (d, true) => some d
    | _ => none).bind fun d => (iosFrom (k + 1) io Γ).map (d :: ·) := (rfl)
@[simp] theorem sz_1 : 1 ≤ sizeLine := by decide
@[simp] theorem sz_2 : 2 ≤ sizeLine := by decide
@[simp] theorem sz_3 : 3 ≤ sizeLine := by decide
@[simp] theorem sz_4 : 4 ≤ sizeLine := by decide
@[simp] theorem sz_5 : 5 ≤ sizeLine := by decide
@[simp] theorem sz_6 : 6 ≤ sizeLine := by decide
@[simp] theorem sz_7 : 7 ≤ sizeLine := by decide
@[simp] theorem sz_8 : 8 ≤ sizeLine := by decide
@[simp] theorem sz_9 : 9 ≤ sizeLine := by decide
@[simp] theorem sz_10 : 10 ≤ sizeLine := by decide
@[simp] theorem sz_11 : 11 ≤ sizeLine := by decide
@[simp] theorem sz_12 : 12 ≤ sizeLine := by decide
@[simp] theorem sz_63 : 63 ≤ sizeLine := by decide
@[simp] theorem sz_64 : 64 ≤ sizeLine := by decide
/-- marked or not -/
def mk (m : Bool) (d : D) : D := if m then .nw d else d
@[simp] theorem mk_t (d : D) : mk true d = .nw d := (rfl)
@[simp] theorem mk_un (m : Bool) (d : D) : (mk m d).un = d.un := by cases m <;> rfl
@[simp] theorem tupT_mk (m : Bool) (is : List Nat) (d : D) : tupT is (mk m d) Γ = tupT is d Γ := by cases m <;> rfl
@[simp] theorem toP_mk (m : Bool) (d : D) : (mk m d).toP = d.toP := by cases m <;> rfl
@[simp] theorem clr_mk (m : Bool) (d : D) : (mk m d).clr = d.clr := by cases m <;> rfl
@[simp] theorem fl_non : D.non.fl = some .non := (rfl)
@[simp] theorem fl_bl (b : Bool) : (D.bl b).fl = some (.bl b) := (rfl)
@[simp] theorem fl_int (b : Int) : (D.int b).fl = some (.int b) := (rfl)
@[simp] theorem fl_str (b : Str) : (D.str b).fl = some (.str b) := (rfl)
@[simp] theorem fl_lst (b : List D) : (D.lst b).fl = none := (rfl)
@[simp] theorem fl_tup (b : List D) : (D.tup b).fl = none := (rfl)
@[simp] theorem fl_mk (m : Bool) (ds : List D) : (mk m (.tup ds)).fl = none := by cases m <;> rfl
@[simp] theorem isi_mk (m : Bool) (d : D) (t : String) : isiD t (mk m d).un = isiD t d.un := by cases m <;> rfl
end
@[simp] theorem isi_non_bool  : isiD "bool" (.non) = some false := (rfl)
@[simp] theorem isi_non_int  : isiD "int" (.non) = some false := (rfl)
@[simp] theorem isi_non_str  : isiD "str" (.non) = some false := (rfl)
@[simp] theorem isi_non_list  : isiD "list" (.non) = some false := (rfl)
@[simp] theorem isi_non_tuple  : isiD "tuple" (.non) = some false := (rfl)
@[simp] theorem isi_non_dict  : isiD "dict" (.non) = some false := (rfl)
@[simp] theorem isi_bl_bool (z : Bool) : isiD "bool" (.bl z) = some true := (rfl)
@[simp] theorem isi_bl_int (z : Bool) : isiD "int" (.bl z) = some true := (rfl)
@[simp] theorem isi_bl_str (z : Bool) : isiD "str" (.bl z) = some false := (rfl)
@[simp] theorem isi_bl_list (z : Bool) : isiD "list" (.bl z) = some false := (rfl)
@[simp] theorem isi_bl_tuple (z : Bool) : isiD "tuple" (.bl z) = some false := (rfl)
@[simp] theorem isi_bl_dict (z : Bool) : isiD "dict" (.bl z) = some false := (rfl)
@[simp] theorem isi_int_bool (z : Int) : isiD "bool" (.int z) = some false := (rfl)
@[simp] theorem isi_int_int (z : Int) : isiD "int" (.int z) = some true := (rfl)
@[simp] theorem isi_int_str (z : Int) : isiD "str" (.int z) = some false := (rfl)
@[simp] theorem isi_int_list (z : Int) : isiD "list" (.int z) = some false := (rfl)
@[simp] theorem isi_int_tuple (z : Int) : isiD "tuple" (.int z) = some false := (rfl)
@[simp] theorem isi_int_dict (z : Int) : isiD "dict" (.int z) = some false := (rfl)
@[simp] theorem isi_str_bool (z : Str) : isiD "bool" (.str z) = some false := (rfl)
@[simp] theorem isi_str_int (z : Str) : isiD "int" (.str z) = some false := (rfl)
@[simp] theorem isi_str_str (z : Str) : isiD "str" (.str z) = some true := (rfl)
@[simp] theorem isi_str_list (z : Str) : isiD "list" (.str z) = some false := (rfl)
@[simp] theorem isi_str_tuple (z : Str) : isiD "tuple" (.str z) = some false := (rfl)
@[simp] theorem isi_str_dict (z : Str) : isiD "dict" (.str z) = some false := (rfl)
@[simp] theorem isi_lst_bool (z : List D) : isiD "bool" (.lst z) = some false := (rfl)
@[simp] theorem isi_lst_int (z : List D) : isiD "int" (.lst z) = some false := (rfl)
@[simp] theorem isi_lst_str (z : List D) : isiD "str" (.lst z) = some false := (rfl)
@[simp] theorem isi_lst_list (z : List D) : isiD "list" (.lst z) = some true := (rfl)
@[simp] theorem isi_lst_tuple (z : List D) : isiD "tuple" (.lst z) = some false := (rfl)
@[simp] theorem isi_lst_dict (z : List D) : isiD "dict" (.lst z) = some false := (rfl)
@[simp] theorem isi_tup_bool (z : List D) : isiD "bool" (.tup z) = some false := (rfl)
@[simp] theorem isi_tup_int (z : List D) : isiD "int" (.tup z) = some false := (rfl)
@[simp] theorem isi_tup_str (z : List D) : isiD "str" (.tup z) = some false := (rfl)
@[simp] theorem isi_tup_list (z : List D) : isiD "list" (.tup z) = some false := (rfl)
@[simp] theorem isi_tup_tuple (z : List D) : isiD "tuple" (.tup z) = some true := (rfl)
@[simp] theorem isi_tup_dict (z : List D) : isiD "dict" (.tup z) = some false := (rfl)
@[simp] theorem isi_scr_bool (z : List Int) : isiD "bool" (.scr z) = some false := (rfl)
@[simp] theorem isi_scr_int (z : List Int) : isiD "int" (.scr z) = some false := (rfl)
@[simp] theorem isi_scr_str (z : List Int) : isiD "str" (.scr z) = some false := (rfl)
@[simp] theorem isi_scr_list (z : List Int) : isiD "list" (.scr z) = some true := (rfl)
@[simp] theorem isi_scr_tuple (z : List Int) : isiD "tuple" (.scr z) = some false := (rfl)
@[simp] theorem isi_scr_dict (z : List Int) : isiD "dict" (.scr z) = some false := (rfl)
@[simp] theorem isi_dct_bool (k : List Key) (z : List D) : isiD "bool" (.dct k z) = some false := (rfl)
@[simp] theorem isi_dct_int (k : List Key) (z : List D) : isiD "int" (.dct k z) = some false := (rfl)
@[simp] theorem isi_dct_str (k : List Key) (z : List D) : isiD "str" (.dct k z) = some false := (rfl)
@[simp] theorem isi_dct_list (k : List Key) (z : List D) : isiD "list" (.dct k z) = some false := (rfl)
@[simp] theorem isi_dct_tuple (k : List Key) (z : List D) : isiD "tuple" (.dct k z) = some false := (rfl)
@[simp] theorem isi_dct_dict (k : List Key) (z : List D) : isiD "dict" (.dct k z) = some true := (rfl)
end Dv.Q
namespace Dv
open PySem PySem.Spec L2 Dv.Q
/-! ### texts as lists of signs -/
def tx (l : List Nat) : Str := ⟨l.toArray⟩
theorem tx_list (l : List Nat) : (tx l).cps.toList = l := rfl
theorem tx_of (s : Str) : tx s.cps.toList = s := SX.S_tl s
theorem tx_inj {a b : List Nat} : tx a = tx b ↔ a = b := ⟨fun h => SX.S_inj h, fun h => by rw [h]⟩
theorem tx_len (l : List Nat) : (tx l).length = l.length := SX.S_len l
theorem tx_cat (a b : List Nat) : tx a ++ tx b = tx (a ++ b) := SX.S_cat a b
theorem tx_join (a : List Nat) (ys : List (List Nat)) : Txt.join (tx a) (ys.map tx) = tx (TL.joinL a ys) := SX.join_S a ys
theorem tx_one (c : Nat) : (⟨#[c]⟩ : Str) = tx [c] := rfl
@[simp] theorem tx_inj' {a b : List Nat} : (tx a = tx b) = (a = b) := propext tx_inj
@[simp] theorem tx_len' (l : List Nat) : (tx l).length = l.length := tx_len l
theorem cut_tx {l : List Nat} {k : Nat} (m : Nat) (h : k ≤ l.length) : cutS (tx l) (some (k : Int)) (some ((k : Int) + (m : Int))) = tx ((l.drop k).take m) := by
  unfold cutS
  rw [tx_list, tx_len, show (k : Int) + (m : Int) = ((k + m : Nat) : Int) by simp, HT.sIx_nat, HT.sIx_nat, Nat.min_eq_left h]
  unfold tx
  congr 2
  by_cases c : k + m ≤ l.length
  · rw [Nat.min_eq_left c, Nat.add_sub_cancel_left]
  · rw [Nat.min_eq_right (by omega), List.take_of_length_le (by rw [List.length_drop]; exact Nat.le_refl _), List.take_of_length_le (by rw [List.length_drop]; omega)]
theorem cut_tx2 {l : List Nat} {k m : Nat} (h : k ≤ m) (h2 : m ≤ l.length) : cutS (tx l) (some (k : Int)) (some (m : Int)) = tx ((l.drop k).take (m - k)) := by
  have := cut_tx (l := l) (k := k) (m - k) (by omega)
  rw [show (k : Int) + ((m - k : Nat) : Int) = (m : Int) by omega] at this
  exact this
theorem idx_tx {l : List Nat} (h : l.length ≤ sizeLine) (k : Nat) : idxD (.str (tx l)) (.int (k : Int)) = (l[k]?).map fun c => .str (tx [c]) := by
  show (if (tx l).length ≤ sizeLine then (atI (tx l).cps.toList (k : Int)).map fun c => D.str ⟨#[c]⟩ else none) = _
  rw [tx_len, if_pos h, tx_list, Q.atI_of]
  rfl
theorem in_tx (c : Nat) (l : List Nat) : inD (.str (tx [c])) (.str (tx l)) = some (decide (c ∈ l)) := rfl
theorem signs_tx (l : List Nat) : signsD (tx l) = l.map fun c => .str (tx [c]) := rfl
theorem replS_one (y : Nat) (z : List Nat) : ∀ l : List Nat, PySem.StrLaws.replL [y] z l = l.flatMap fun c => if c = y then z else [c]
  | [] => by rw [PySem.StrLaws.replL_nil]; rfl
  | c :: r => by
    by_cases h : c = y
    · subst h
      rw [PySem.StrLaws.replL_hit (by simp) (by simp), List.flatMap_cons, if_pos rfl]
      congr 1
      exact replS_one c z r
    · rw [PySem.StrLaws.replL_miss (by simpa using h), List.flatMap_cons, if_neg h, replS_one y z r]
      rfl
theorem tx_repl (l : List Nat) (y : Nat) (z : List Nat) : Txt.replace (tx l) (tx [y]) (tx z) = tx (l.flatMap fun c => if c = y then z else [c]) := by
  have h := PySem.StrLaws.replace_list (x := tx l) (y := tx [y]) (z := tx z) (by rw [tx_len]; exact Nat.le_refl _)
  rw [tx_list, tx_list, tx_list, replS_one] at h
  rw [← h, tx_of]
theorem rep_tx {l : List Nat} {y : Nat} {z : List Nat} (h : l.length + (l.length + 1) * z.length ≤ 16777216) : repD (tx [y]) (tx z) (.str (tx l)) = some (.str (tx (l.flatMap fun c => if c = y then z else [c]))) := by
  show (if (tx l).length + ((tx l).length + 1) * (tx z).length ≤ 16777216 then some (D.str (Txt.replace (tx l) (tx [y]) (tx z))) else none) = _
  rw [tx_len, tx_len, if_pos h, tx_repl]
theorem part_tx {l b p q : List Nat} (hb : b ≠ []) (hl : l.length ≤ sizeLine) (h : TL.par b [] l = some (p, q)) : partD (.str (tx l)) (.str (tx b)) = some [.str (tx p), .str (tx b), .str (tx q)] := by
  show (if ((tx b).length == 0) = false ∧ (tx l).length ≤ sizeLine then some [D.str (Txt.partition (tx l) (tx b)).1, .str (Txt.partition (tx l) (tx b)).2.1, .str (Txt.partition (tx l) (tx b)).2.2] else none) = _
  have e : Txt.partition (tx l) (tx b) = (tx p, tx b, tx q) := SX.partition_some hb h
  rw [tx_len, tx_len, if_pos ⟨by cases b <;> simp_all, hl⟩, e]
theorem part_no {l b : List Nat} (hb : b ≠ []) (hl : l.length ≤ sizeLine) (h : TL.par b [] l = none) : partD (.str (tx l)) (.str (tx b)) = some [.str (tx l), .str (tx []), .str (tx [])] := by
  show (if ((tx b).length == 0) = false ∧ (tx l).length ≤ sizeLine then some [D.str (Txt.partition (tx l) (tx b)).1, .str (Txt.partition (tx l) (tx b)).2.1, .str (Txt.partition (tx l) (tx b)).2.2] else none) = _
  have e : Txt.partition (tx l) (tx b) = (tx l, tx [], tx []) := SX.partition_none hb h
  rw [tx_len, tx_len, if_pos ⟨by cases b <;> simp_all, hl⟩, e]
theorem toS_tx (ys : List (List Nat)) : (ys.map fun l => D.str (tx l)).mapM toS = some (ys.map tx) := by
  induction ys with
  | nil => rfl
  | cons a ys ih => rw [List.map_cons, List.mapM_cons, ih]; rfl
theorem sum_tx (ys : List (List Nat)) : ((ys.map tx).map (·.length)).sum = (ys.map (·.length)).sum := by
  rw [List.map_map]
  congr 1
theorem join_tx {a : List Nat} {ys : List (List Nat)} (h : (ys.map (·.length)).sum + ys.length * a.length ≤ 16777216) : bmD .join (.str (tx a)) [.lst (ys.map fun l => D.str (tx l))] = some (.str (tx (TL.joinL a ys)), false) := by
  show ((ys.map fun l => D.str (tx l)).mapM toS).bind (fun zs => if (zs.map (·.length)).sum + zs.length * (tx a).length ≤ 16777216 then some (D.str (Txt.join (tx a) zs), false) else none) = _
  rw [toS_tx, Option.bind_some, sum_tx, List.length_map, tx_len, if_pos h, tx_join]
@[simp] theorem e_rep {g : Cfg} {Γ : Env} (a : E) (y z : Str) : (ev g (.rep a y z)).e Γ = (((ev g a).e Γ).bind fun p => (getR p.2 p.1).bind fun d => (repD y z d).map fun v => (.sh v, p.2)) := (rfl)
@[simp] theorem e_revL {g : Cfg} {Γ : Env} (a : E) : (ev g (.revL a)).e Γ = (((ev g a).e Γ).bind fun p => (getR p.2 p.1).bind fun d => (revD d).map fun v => (.ow v, p.2)) := (rfl)
@[simp] theorem revD_lst (ds : List D) : revD (.lst ds) = some (.lst ds.reverse) := (rfl)
@[simp] theorem e_partn {g : Cfg} {Γ : Env} (a b : E) : (ev g (.partn a b)).e Γ = (((ev g a).e Γ).bind fun p => (getR p.2 p.1).bind fun d0 => if isStr d0 then ((ev g b).e p.2).bind fun q => (getR q.2 p.1).bind fun d => (getR q.2 q.1).bind fun d' => (partD d d').map fun v => (.sh (.nw (.tup v)), q.2) else none) := (rfl)
@[simp] theorem isStr_str (s : Str) : isStr (.str s) = true := (rfl)
@[simp] theorem i_itS {g : Cfg} {Γ : Env} (e : E) : (ev g (.itS e)).i Γ = (((ev g e).e Γ).bind fun p => (getR p.2 p.1).bind fun d => match d with
      | .str s => some (signsD s, p.2)
      | _ => none) := (rfl)
end Dv
namespace Dv
open PySem PySem.Spec L2
variable {cl : Ct}
/-! ### blocks in another order of brackets -/
theorem tSeq_assoc (a b c : TS) : tSeq (tSeq a b) c = tSeq a (tSeq b c) := rfl
theorem trS_seq {K : PySem.W.Frag} {Φ : Pm} (a b : S) : trS K Φ (.seq a b) = tSeq (trS K Φ a) (trS K Φ b) := rfl
theorem trS_scope {K : PySem.W.Frag} {Φ : Pm} (ws : List Nat) (a b : S) : trS K Φ (.scope ws a b) = tSeq (trS K Φ a) (trS K Φ b) := rfl
/-! ### a list of rows with names, each row spoilt, the list itself made longer -/
def itemR (f : D → Bool) : D → Bool
  | .str _ => true
  | .nw (.tup [.str _, y]) => f y
  | _ => false
/-- new rows, n deep; their names are texts -/
def spoR : Nat → D → Bool
  | n + 1, .nw (.lst xs) => xs.all (itemR (spoR n))
  | _, _ => false
theorem spoR_N : ∀ {n : Nat} {d : D}, spoR n d = true → spoN n d = true
  | 0, d, h => by cases d <;> cases h
  | n + 1, d, h => by
    cases d <;> try (cases h; done)
    rename_i d
    cases d <;> try (cases h; done)
    rename_i xs
    have h' : xs.all (itemR (spoR n)) = true := h
    show xs.all (item (spoN n)) = true
    refine List.all_eq_true.mpr fun x hx => ?_
    have q := List.all_eq_true.mp h' x hx
    cases x <;> try (cases q; done)
    · rfl
    · rename_i e
      cases e <;> try (cases q; done)
      rename_i l
      match l, q with
      | [.str s, y], q => exact spoR_N (n := n) q
theorem siz_uniq : ∀ {n m : Nat} {M : Hp} {d e : D} {v : V}, spoR n d = true → spoR m e = true → Rep cl M d v → Rep cl M e v → sizN n d = sizN m e
  | 0, _, _, d, _, _, h, _, _, _ => by cases d <;> cases h
  | _ + 1, 0, _, _, e, _, _, h, _, _ => by cases e <;> cases h
  | n + 1, m + 1, M, d, e, v, h1, h2, r1, r2 => by
    cases d <;> try (cases h1; done)
    rename_i d
    cases d <;> try (cases h1; done)
    rename_i xs
    cases e <;> try (cases h2; done)
    rename_i e
    cases e <;> try (cases h2; done)
    rename_i ys
    have h1' : xs.all (itemR (spoR n)) = true := h1
    have h2' : ys.all (itemR (spoR m)) = true := h2
    obtain ⟨⟨a, us, rfl, ma, ra⟩, _⟩ := r1
    obtain ⟨⟨b, ws, eb, mb, rb⟩, _⟩ := r2
    cases eb
    rw [ma] at mb
    cases mb
    show 1 + (xs.map (itemZ (sizN n))).sum = 1 + (ys.map (itemZ (sizN m))).sum
    congr 1
    clear h1 h2 ma
    induction xs generalizing ys us with
    | nil =>
      cases ra
      cases ys with
      | nil => rfl
      | cons y ys => obtain ⟨_, _, z, _⟩ := rb; cases z
    | cons x xs ih =>
      obtain ⟨u, us', rfl, rx, rxs⟩ := ra
      cases ys with
      | nil => cases rb
      | cons y ys =>
        obtain ⟨u2, us2, z, ry, rys⟩ := rb
        cases z
        simp only [List.all_cons, Bool.and_eq_true] at h1' h2'
        have e := ih ys h1'.2 h2'.2 us' rxs rys
        simp only [List.map_cons, List.sum_cons]
        rw [e]
        congr 1
        have q1 := h1'.1
        have q2 := h2'.1
        cases x <;> try (cases q1; done)
        · rename_i s
          cases (show u = .str s from rx)
          cases y <;> try (cases q2; done)
          · rfl
          · obtain ⟨_, _, z, _⟩ := ry
            cases z
        · rename_i x
          cases x <;> try (cases q1; done)
          rename_i l
          match l, q1 with
          | [.str s, y1], q1 =>
            obtain ⟨⟨t, ts, rfl, mt, rt⟩, _⟩ := rx
            cases y <;> try (cases q2; done)
            · cases (show V.ref t = .str _ from ry)
            · rename_i y
              cases y <;> try (cases q2; done)
              rename_i l2
              match l2, q2 with
              | [.str s2, y2], q2 =>
                obtain ⟨⟨t2, ts2, z, mt2, rt2⟩, _⟩ := ry
                cases z
                rw [mt] at mt2
                cases mt2
                obtain ⟨_, _, z1, _, rt⟩ := rt
                subst z1
                obtain ⟨_, _, z1, ra1, rt⟩ := rt
                subst z1
                obtain ⟨_, _, z1, _, rt2⟩ := rt2
                cases z1
                obtain ⟨_, _, z1, ra2, rt2⟩ := rt2
                cases z1
                exact siz_uniq (n := n) (m := m) q1 q2 ra1 ra2
/-- the one at a counts as old -/
abbrev less (cl : Ct) (a : Addr) : Ct := ⟨cl.toCt0, fun x => cl.N x ∧ x ≠ a⟩
theorem sizN_pos {n : Nat} {d : D} (h : spoR n d = true) : 0 < sizN n d := by
  cases n with
  | zero => cases d <;> cases h
  | succ n =>
    cases d <;> try (cases h; done)
    rename_i d
    cases d <;> try (cases h; done)
    show 0 < 1 + _
    omega
theorem Rep.less {a : Addr} {m : Nat} {M : Hp} {e : D} (he : spoR m e = true) (re : Rep cl M e (.ref a)) : ∀ {n : Nat} {d : D} {v : V}, spoR n d = true → Rep cl M d v → sizN n d < sizN m e → Rep (Dv.less cl a) M d v
  | 0, d, _, h, _, _ => by cases d <;> cases h
  | n + 1, d, v, h, r, lt => by
    have ne : v ≠ .ref a := fun z => by
      subst z
      have := siz_uniq h he r re
      omega
    cases d <;> try (cases h; done)
    rename_i d
    cases d <;> try (cases h; done)
    rename_i xs
    have h' : xs.all (itemR (spoR n)) = true := h
    obtain ⟨⟨b, us, rfl, mb, rb⟩, b', eb, nb⟩ := r
    cases eb
    refine ⟨⟨b, us, rfl, mb, ?_⟩, b, rfl, nb, fun z => ne (by rw [z])⟩
    have lt' : (xs.map (itemZ (sizN n))).sum < sizN m e := by
      have : sizN (n + 1) (.nw (.lst xs)) = 1 + (xs.map (itemZ (sizN n))).sum := rfl
      omega
    have ea : ∃ vs, M a = some (.lst vs) := by
      cases m with
      | zero => cases e <;> cases he
      | succ m =>
        cases e <;> try (cases he; done)
        rename_i e
        cases e <;> try (cases he; done)
        obtain ⟨⟨a', vs, z, ma, _⟩, _⟩ := re
        cases z
        exact ⟨vs, ma⟩
    obtain ⟨vs, ma⟩ := ea
    clear h lt mb ne
    induction xs generalizing us with
    | nil => exact rb
    | cons x xs ih =>
      obtain ⟨u, us', rfl, rx, rxs⟩ := rb
      simp only [List.all_cons, Bool.and_eq_true] at h'
      simp only [List.map_cons, List.sum_cons] at lt'
      refine ⟨u, us', rfl, ?_, ih h'.2 us' rxs (by omega)⟩
      have q1 := h'.1
      cases x <;> try (cases q1; done)
      · exact rx
      · rename_i x
        cases x <;> try (cases q1; done)
        rename_i l
        match l, q1 with
        | [.str s, y1], q1 =>
          obtain ⟨⟨t, ts, rfl, mt, rt⟩, t', et, nt⟩ := rx
          cases et
          obtain ⟨p, _, rfl, rp, rt⟩ := rt
          obtain ⟨y, _, rfl, ry, rt⟩ := rt
          have lz : sizN n y1 < sizN m e := by
            have : itemZ (sizN n) (.nw (.tup [.str s, y1])) = sizN n y1 := rfl
            omega
          refine ⟨⟨t, _, rfl, mt, p, _, rfl, rp, y, _, rfl, Rep.less he re (n := n) q1 ry lz, rt⟩, t, rfl, nt, fun z => ?_⟩
          subst z
          rw [ma] at mt
          cases mt
/-- a rule, its row n deep -/
def ruleR (n : Nat) : D → Bool
  | .nw (.tup [.str _, y]) => spoR n y && lenN maxLen n y
  | _ => false
def spJ (n : Nat) (ws : List Nat) (Γ : Env) (i j k k' i' : Nat) : Bool := decide (k' = k ∧ i' = i ∧ i ≠ j ∧ i ≠ k ∧ j ≠ k ∧ j < Γ.length ∧ k < Γ.length ∧ j ∈ ws ∧ k ∈ ws) && match Γ.at i with
  | some (.nw (.lst ds), false) => ds.all (ruleR n) && decide ((ds.map (itemZ (sizN n))).sum ≤ 100000 ∧ ds.length ≤ 100000)
  | _ => false
section
variable {c0 : Ct0} {Φ : Pm}
theorem spo_joined {f0 n i j k k' i' : Nat} {w : V} {ws : List Nat} {Γ0 Γ : Env} (hf : Φ f0 = spSpoil c0 n) (h : spJ n ws Γ i j k k' i' = true) :
    SpoOk c0 ws (trS c0.K Φ (.seq (.for_ (.itL (.var i)) [j, k] (.ex (.call f0 (.cons (.var k') .nil)))) (.ex (.mut .append i' (.cons (.tup (.cons (.cst w) (.cons (.lst .nil) .nil))) .nil))))) Γ0 Γ := by
  unfold spJ at h
  obtain ⟨h1, h2⟩ := Bool.and_eq_true_iff.mp h
  obtain ⟨rfl, rfl, nij, nik, njk, lj, lk, wj, wk⟩ := of_decide_eq_true h1
  obtain ⟨ds, e, h3, h4, h5⟩ : ∃ ds, Γ.at i' = some (.nw (.lst ds), false) ∧ ds.all (ruleR n) = true ∧ (ds.map (itemZ (sizN n))).sum ≤ 100000 ∧ ds.length ≤ 100000 := by
    split at h2
    · rename_i ds e
      obtain ⟨a, b⟩ := Bool.and_eq_true_iff.mp h2
      have b := of_decide_eq_true b
      exact ⟨ds, e, a, b.1, b.2⟩
    · cases h2
  intro cl σ M H hc ok _ D q
  obtain ⟨v, s, r⟩ := ok.slot i' _ _ e
  have r : Rep cl M (.nw (.lst ds)) v := r
  have lim : 100000 ≤ maxLen := by decide
  have sz : 100000 < sizeLine := by decide
  subst hc
  have all : spoR (n + 1) (.nw (.lst ds)) = true := by
    show ds.all (itemR (spoR n)) = true
    refine List.all_eq_true.mpr fun x hx => ?_
    have q := List.all_eq_true.mp h3 x hx
    cases x <;> try (cases q; done)
    rename_i x
    cases x <;> try (cases q; done)
    rename_i l
    match l, q with
    | [.str s, y], q => exact (Bool.and_eq_true_iff.mp q).1
  have r0 := r
  obtain ⟨⟨a, us, rfl, m, ru⟩, a', ea, hna⟩ := r
  cases ea
  have hus : us.length = ds.length := ru.length.symm
  have ha : H a = some (.lst us) := ok.sub a _ m
  have hi := at_lt e
  have lσ : Γ.length = σ.length := ok.len
  let S : Nat → Nat := fun z => ((ds.take z).map (itemZ (sizN n))).sum
  have S0 : S 0 = 0 := by simp [S]
  have Ss : ∀ z x, ds[z]? = some x → S (z + 1) = S z + itemZ (sizN n) x := fun z x h => by
    simp only [S]
    rw [List.take_add_one, h, List.map_append, List.sum_append]
    simp
  have Sle : ∀ z, S z ≤ (ds.map (itemZ (sizN n))).sum := fun z => by
    have e : (ds.map (itemZ (sizN n))).sum = S z + ((ds.drop z).map (itemZ (sizN n))).sum := by
      simp only [S]
      rw [← List.sum_append, ← List.map_append, List.take_append_drop]
    omega
  let N' : Addr → Prop := (Dv.less cl a).N
  let K : Hp → Prop := fun H' => (∀ b o, H b = some o → ¬ N' b → H' b = some o) ∧ ∀ b, H b ≠ none → H' b ≠ none
  let Sl : St → Prop := fun σ' => σ'.length = σ.length ∧ ∀ z, z ∉ ws → σ'[z]? = σ[z]?
  let SlA : St → Prop := fun σ' => Sl σ' ∧ σ'[i']? = some (some (V.ref a))
  let Inv : Nat → Nat → St → Hp → Prop := fun z w σ' H' => SlA σ' ∧ Grown N' (S z) M H' ∧ K H' ∧ w = us.length - z ∧ z ≤ us.length
  refine ⟨V.ref a, s, a, rfl, ⟨_, SqL.of ha⟩, Inv, ⟨_, ⟨⟨rfl, fun _ _ => rfl⟩, s⟩, by rw [S0]; exact Grown.same ok.sub, ⟨fun _ _ h _ => h, fun _ h => h⟩, rfl, Nat.zero_le _⟩, ?_⟩
  rintro z w σ' H' ⟨⟨⟨sl1, sl2⟩, sl3⟩, gz, ⟨k1, k2⟩, rfl, hz⟩
  have ha' : H' a = some (.lst us) := k1 a _ ha fun w => w.2 rfl
  by_cases hlt : z < us.length
  · obtain ⟨x, hx⟩ : ∃ x, us[z]? = some x := ⟨_, List.getElem?_eq_getElem (by omega)⟩
    refine .inr ⟨⟨_, x, SqL.of ha', hx⟩, fun σ2 H2 => Inv (z + 1) (us.length - (z + 1)) σ2 H2, fun σ2 H2 h => ⟨_, by omega, h⟩, ?_⟩
    rintro x' H2 ⟨rfl, hy⟩
    have := hy _ (SqL.of ha')
    rw [hx] at this
    cases this
    obtain ⟨dx, hdx⟩ : ∃ dx, ds[z]? = some dx := ⟨_, List.getElem?_eq_getElem (by omega)⟩
    obtain ⟨w, ew, rw'⟩ := ru.get hdx
    rw [hx] at ew
    cases ew
    have i1 := List.all_eq_true.mp h3 dx (List.mem_of_getElem? hdx)
    have Sz := Ss z dx hdx
    have Sle1 := Sle (z + 1)
    cases dx <;> try (cases i1; done)
    rename_i dx
    cases dx <;> try (cases i1; done)
    rename_i l
    match l, i1, rw', Sz with
    | [.str nm, y], i1, rw', Sz =>
      obtain ⟨y1, y2⟩ := Bool.and_eq_true_iff.mp (show (spoR n y && lenN maxLen n y) = true from i1)
      obtain ⟨⟨t, ts, rfl, mt, rt⟩, t', et, nt⟩ := rw'
      cases et
      obtain ⟨p, _, rfl, rp, rt⟩ := rt
      obtain ⟨yv, _, rfl, ry, rt⟩ := rt
      cases rt
      have ht : H2 t = some (.tup [p, yv]) := gz.tup mt
      have zl : itemZ (sizN n) (.nw (.tup [.str nm, y])) = sizN n y := rfl
      have lz : sizN n y < sizN (n + 1) (.nw (.lst ds)) := by
        have : sizN (n + 1) (.nw (.lst ds)) = 1 + (ds.map (itemZ (sizN n))).sum := rfl
        omega
      have ry' := Rep.less all r0 y1 ry lz
      refine ⟨t, [p, yv], rfl, SqT.of ht, rfl, p, [yv], rfl, ?_⟩
      refine ⟨yv, [], rfl, ?_⟩
      refine ⟨rfl, ?_⟩
      refine ⟨yv, ?_, ?_⟩
      · rw [List.getElem?_set_self (by rw [List.length_set]; omega)]
      show Φ f0 ([yv] ++ []) H2 _ Φ.xk
      rw [hf]
      refine ⟨Dv.less cl a, M, y, yv, S z, rfl, rfl, ry', spoR_N y1, y2, gz, ?_, fun H3 g3 q1 q2 => ?_⟩
      · omega
      · show Inv (z + 1) _ _ H3
        refine ⟨⟨⟨by simp [sl1], fun g hg => ?_⟩, ?_⟩, ?_, ⟨fun b o h n => q1 b o (k1 b o h n) n, fun b h => q2 b (k2 b h)⟩, rfl, hlt⟩
        · rw [List.getElem?_set_ne (fun y : k' = g => hg (y ▸ wk)), List.getElem?_set_ne (fun y : j = g => hg (y ▸ wj)), sl2 g hg]
        · rw [List.getElem?_set_ne (Ne.symm nik), List.getElem?_set_ne (Ne.symm nij), sl3]
        · rw [Sz, zl]
          exact g3
  · refine .inl ⟨⟨_, SqL.of ha', by omega⟩, ?_⟩
    refine ⟨V.ref a, sl3, .inl ⟨rfl, _, SqL.of ha'⟩, ?_⟩
    refine ⟨Nat.zero_le _, fun p1 hp1 => ⟨by show 2 ≤ sizeLine; decide, fun p2 hp2 => ?_⟩⟩
    have n1 : p1 ≠ a := fun z => by rw [z, ha'] at hp1; cases hp1
    have n2 : p2 ≠ a := fun z => by rw [z, upd_ne (Ne.symm n1), ha'] at hp2; cases hp2
    have hp2' : H' p2 = none ∧ p2 ≠ p1 := by
      by_cases g : p2 = p1
      · rw [g, upd_same] at hp2; cases hp2
      · rw [upd_ne g] at hp2; exact ⟨hp2, g⟩
    refine ⟨a, us, .ref p2, rfl, rfl, by rw [upd_ne (Ne.symm n2), upd_ne (Ne.symm n1)]; exact ha', by omega, ?_⟩
    refine q _ _ (fun b o h nb => ?_) (fun b h => ?_) sl2 sl1
    · have g1 : b ≠ a := fun z => nb (z ▸ hna)
      have h2 := k1 b o h fun w => nb w.1
      rw [upd_ne g1, upd_ne (fun z => by rw [z, hp2'.1] at h2; cases h2), upd_ne (fun z => by rw [z, hp1] at h2; cases h2)]
      exact h2
    · have h2 := k2 b h
      by_cases g1 : b = a
      · rw [g1, upd_same]; exact fun z => nomatch z
      · rw [upd_ne g1]
        by_cases g2 : b = p2
        · rw [g2, upd_same]; exact fun z => nomatch z
        · rw [upd_ne g2]
          by_cases g3 : b = p1
          · rw [g3, upd_same]; exact fun z => nomatch z
          · rw [upd_ne g3]; exact h2
end
end Dv
namespace Dv
open PySem PySem.Spec L2
/-! ### classes of a text -/
theorem spX_of {c0 : Ct0} {sg : Sig} {φ : Sem'} {ψ : Semx} {vs : List V} {H : Hp} {Q : VK} {E : XK} (h : spX c0 sg φ ψ vs H Q E) (hn : ∀ ds, ψ ds = none) : spOf c0 sg φ vs H Q E := h.elim id fun ⟨X, z⟩ => (spOf_none (fun ds => by unfold sel; rw [hn]; rfl) vs H _ E z).elim
/-- a def of a class: a method of the classes cs, their __init__, called by a class's name -/
def MdOk (P : Program) (w : World) (K : PySem.W.Frag) (mg : Str → Option Value) (base : Heap) (k : Nat) (cc : Nat → Addr) (m : Str) (cs : List Nat) (is us : List (Nat × Str)) (sp : Sp) : Prop :=
  (∀ c ∈ cs, MthAt P w K mg base k (cc c) m sp) ∧ (∀ p ∈ is, MkAt P w K mg base k (cc p.1) p.2 sp) ∧ ∀ p ∈ us, CfnAt P w K mg base k p.2 m sp
def MdAt (c0 : Ct0) (mg : Str → Option Value) (m qual : Str) (st : Stmt) (ps : List Str) (cs : List Nat) (is us : List (Nat × Str)) : Prop :=
  ∃ (f : Addr) (fd : FuncData), Fun c0.K m qual st f fd ∧ Binds c0.K fd ps [] ∧ PySem.W.keepIn c0.K (.ref f) = true ∧ (∀ c ∈ cs, Meth c0.K (c0.c c) m f) ∧ (∀ p ∈ is, Mk c0.K (c0.c p.1) f ∧ mg p.2 = some (.ref (c0.c p.1))) ∧
    ∀ p ∈ us, ∃ mc, mg p.2 = some (.ref (c0.c p.1)) ∧ ClX.CRead c0.K (c0.c p.1) mc ∧ ClX.CVal c0.K (c0.c p.1) mc m (.ref f) (.ref f)
theorem l_nil {α : Type} {p : α → Prop} : ∀ x ∈ ([] : List α), p x := fun _ h => by cases h
theorem l_cons {α : Type} {p : α → Prop} {a : α} {l : List α} (h : p a) (t : ∀ x ∈ l, p x) : ∀ x ∈ a :: l, p x := fun x hx => by
  rcases List.mem_cons.mp hx with e | e
  · rw [e]; exact h
  · exact t x e
theorem tb_nil {p : Nat × Nat → Prop} : ∀ x ∈ ([] : List (Nat × Nat)), p x := l_nil
theorem tb_cons {p : Nat × Nat → Prop} {a : Nat × Nat} {l : List (Nat × Nat)} (h : p a) (t : ∀ x ∈ l, p x) : ∀ x ∈ a :: l, p x := l_cons h t
section
variable {c0 : Ct0} {P : Program} {w : World} {mg : Str → Option Value} {base : Heap} {x m qual : Str} {st : Stmt} {N ps : List Str} {k : Nat} {g : Cfg} {sg : Sig} {Φ : Pm} {cs : List Nat} {is us : List (Nat × Str)} {sp : Sp}
theorem mdOk_of (d : MdAt c0 mg m qual st ps cs is us) (h : ∀ f fd, Fun c0.K m qual st f fd → FnOk P w c0.K mg base (CXr P w) k f fd ps sp) : MdOk P w c0.K mg base k c0.c m cs is us sp := by
  obtain ⟨f, fd, F, hb, hk, h1, h2, h3⟩ := d
  have o := h f fd F
  refine ⟨fun c hc => ⟨f, fd, ps, h1 c hc, hb, o⟩, fun p hp => ⟨f, fd, ps, (h2 p hp).1, (h2 p hp).2, hb, o⟩, fun p hp => ?_⟩
  obtain ⟨mc, q1, q2, q3⟩ := h3 p hp
  exact ⟨_, mc, f, fd, ps, q1, q2, q3, hk, hb, o⟩
theorem liftM {fn : Fn} {ψ : Nat → Semx} (d : MdAt c0 mg m qual st ps cs is us) (S : FnScope N ps (defScope st)) (hs : sg.io = fn.io) (hN : N.length = fn.nl) (hp : ps.length = fn.io.length) (hΦ : Sees c0 g Φ) (hx : XOk c0 g ψ Φ)
    (der : ∀ (f : Addr) (cdv : Value) (A : Around) (outer : List PySem.Env) (s : Shared) (H : Hp) (E : XK), Room k (A.deeper (PyProof.Rows.envOfC qual (defScope st) s.heap.objs.size f cdv)) →
      PSs (cxOf (CXr P w) P w c0.K mg base N qual (defScope st) f cdv A outer s H E) (defBody st) (trS c0.K (Φ.at E) fn.body)) : MdOk P w c0.K mg base (k + 1) c0.c m cs is us (spX c0 sg (evF g fn) (xF g ψ fn)) :=
  mdOk_of d fun f fd F => fn_ok hΦ hx F S hs hN hp fun cdv A outer s H E hr => der f cdv A outer s H E hr
theorem liftM0 {φ : Sem'} {ψ : Semx} (d : MdAt c0 mg m qual st ps cs is us) (h : ∀ ds, φ ds = none) (h2 : ∀ ds, ψ ds = none) : MdOk P w c0.K mg base k c0.c m cs is us (spX c0 sg φ ψ) :=
  mdOk_of d fun f fd F => fn_no (spX_none h h2)
/-- a promise by hand -/
theorem hand_ok {b : S} {f : Addr} {fd : FuncData} (F : Fun c0.K m qual st f fd) (S : FnScope N ps (defScope st)) (len : ∀ vs H Q E, sp vs H Q E → vs.length = ps.length)
    (der : ∀ (f : Addr) (cdv : Value) (A : Around) (outer : List PySem.Env) (s : Shared) (H : Hp) (E : XK), Room k (A.deeper (PyProof.Rows.envOfC qual (defScope st) s.heap.objs.size f cdv)) →
      PSs (cxOf (CXr P w) P w c0.K mg base N qual (defScope st) f cdv A outer s H E) (defBody st) (trS c0.K (Φ.at E) b))
    (body : ∀ vs H Q E, sp vs H Q E → trS c0.K (Φ.at E) b { nx := fun _ H' => Q .non H', rt := Q } (L2.start N vs) H) : FnOk P w c0.K mg base (CXr P w) (k + 1) f fd ps sp :=
  F.okX S len fun cdv A outer s H vs Q E hr h => ⟨_, der f cdv A outer s H E hr, body vs H Q E h⟩
theorem hand_no {f : Addr} {fd : FuncData} (no : ∀ vs H Q E, ¬ sp vs H Q E) : FnOk P w c0.K mg base (CXr P w) k f fd ps sp :=
  ⟨fun vs H Q E h => absurd h (no vs H Q E), fun A outer s H args us vs Q E _ _ _ _ h => absurd h (no vs H Q E)⟩
theorem handF {b : S} (d : DefAt c0.K mg x st ps) (S : FnScope N ps (defScope st)) (len : ∀ vs H Q E, sp vs H Q E → vs.length = ps.length)
    (der : ∀ (f : Addr) (cdv : Value) (A : Around) (outer : List PySem.Env) (s : Shared) (H : Hp) (E : XK), Room k (A.deeper (PyProof.Rows.envOfC x (defScope st) s.heap.objs.size f cdv)) →
      PSs (cxOf (CXr P w) P w c0.K mg base N x (defScope st) f cdv A outer s H E) (defBody st) (trS c0.K (Φ.at E) b))
    (body : ∀ vs H Q E, sp vs H Q E → trS c0.K (Φ.at E) b { nx := fun _ H' => Q .non H', rt := Q } (L2.start N vs) H) : FnAt P w c0.K mg base (k + 1) x sp := by
  obtain ⟨f, fd, F, hm, hb⟩ := d
  exact fnAt F hb hm (hand_ok F S len der body)
theorem handF0 (d : DefAt c0.K mg x st ps) (no : ∀ vs H Q E, ¬ sp vs H Q E) : FnAt P w c0.K mg base k x sp := by
  obtain ⟨f, fd, F, hm, hb⟩ := d
  exact fnAt F hb hm (hand_no no)
theorem handM {b : S} (d : MdAt c0 mg m qual st ps cs is us) (S : FnScope N ps (defScope st)) (len : ∀ vs H Q E, sp vs H Q E → vs.length = ps.length)
    (der : ∀ (f : Addr) (cdv : Value) (A : Around) (outer : List PySem.Env) (s : Shared) (H : Hp) (E : XK), Room k (A.deeper (PyProof.Rows.envOfC qual (defScope st) s.heap.objs.size f cdv)) →
      PSs (cxOf (CXr P w) P w c0.K mg base N qual (defScope st) f cdv A outer s H E) (defBody st) (trS c0.K (Φ.at E) b))
    (body : ∀ vs H Q E, sp vs H Q E → trS c0.K (Φ.at E) b { nx := fun _ H' => Q .non H', rt := Q } (L2.start N vs) H) : MdOk P w c0.K mg base (k + 1) c0.c m cs is us sp :=
  mdOk_of d fun f fd F => hand_ok F S len der body
theorem handM0 (d : MdAt c0 mg m qual st ps cs is us) (no : ∀ vs H Q E, ¬ sp vs H Q E) : MdOk P w c0.K mg base k c0.c m cs is us sp := mdOk_of d fun f fd F => hand_no no
end
end Dv
namespace Dv
open PySem PySem.Spec L2
/-! ### a dict of lists of texts: a key, the list's place, its items -/
abbrev Tab := List (Str × Addr × List Str)
def addOne (T : Tab) (h x : Str) : Tab := T.map fun e => if e.1 = h then (e.1, e.2.1, if x ∈ e.2.2 then e.2.2 else e.2.2 ++ [x]) else e
def layH (T : Tab) (h : Str) (ts : List Str) : Tab := ts.foldl (fun T x => addOne T h x) T
def layT (T : Tab) (hs ts : List Str) : Tab := hs.foldl (fun T h => layH T h ts) T
abbrev Tab.ks (T : Tab) : List Str := T.map (·.1)
abbrev Tab.as (T : Tab) : List Addr := T.map (·.2.1)
structure TabAt (H : Hp) (t : Addr) (T : Tab) : Prop where
  dc : H t = some (.dK (T.map fun e => (Sum.inr e.1, V.ref e.2.1)))
  ls : ∀ e ∈ T, H e.2.1 = some (.lst (e.2.2.map V.str))
  nd : T.as.Nodup
  nk : T.ks.Nodup
theorem add_ks (T : Tab) (h x : Str) : (addOne T h x).ks = T.ks := by
  unfold addOne
  show List.map _ (List.map _ _) = _
  rw [List.map_map]
  refine List.map_congr_left fun e _ => ?_
  show (if e.1 = h then _ else e).1 = e.1
  by_cases c : e.1 = h
  · rw [if_pos c]
  · rw [if_neg c]
theorem add_as (T : Tab) (h x : Str) : (addOne T h x).as = T.as := by
  unfold addOne
  show List.map _ (List.map _ _) = _
  rw [List.map_map]
  refine List.map_congr_left fun e _ => ?_
  show (if e.1 = h then _ else e).2.1 = e.2.1
  by_cases c : e.1 = h
  · rw [if_pos c]
  · rw [if_neg c]
theorem layH_ks : ∀ (ts : List Str) (T : Tab) (h : Str), (layH T h ts).ks = T.ks
  | [], _, _ => rfl
  | x :: ts, T, h => (layH_ks ts (addOne T h x) h).trans (add_ks T h x)
theorem layH_as : ∀ (ts : List Str) (T : Tab) (h : Str), (layH T h ts).as = T.as
  | [], _, _ => rfl
  | x :: ts, T, h => (layH_as ts (addOne T h x) h).trans (add_as T h x)
theorem layT_ks (ts : List Str) : ∀ (hs : List Str) (T : Tab), (layT T hs ts).ks = T.ks
  | [], _ => rfl
  | h :: hs, T => (layT_ks ts hs (layH T h ts)).trans (layH_ks ts T h)
theorem layT_as (ts : List Str) : ∀ (hs : List Str) (T : Tab), (layT T hs ts).as = T.as
  | [], _ => rfl
  | h :: hs, T => (layT_as ts hs (layH T h ts)).trans (layH_as ts T h)
def Lens (T : Tab) (B : Nat) : Prop := ∀ e ∈ T, e.2.2.length ≤ B
theorem Lens.up {T : Tab} {B C : Nat} (h : Lens T B) (l : B ≤ C) : Lens T C := fun e he => Nat.le_trans (h e he) l
theorem Lens.add {T : Tab} {B : Nat} (l : Lens T B) (h x : Str) : Lens (addOne T h x) (B + 1) := fun e he => by
  obtain ⟨e', he', rfl⟩ := List.mem_map.mp he
  have := l e' he'
  by_cases c : e'.1 = h
  · rw [if_pos c]
    show (if x ∈ e'.2.2 then e'.2.2 else e'.2.2 ++ [x]).length ≤ B + 1
    by_cases d : x ∈ e'.2.2
    · rw [if_pos d]; omega
    · rw [if_neg d, List.length_append, List.length_singleton]; omega
  · rw [if_neg c]; omega
theorem Lens.layH : ∀ {ts : List Str} {T : Tab} {B : Nat} (h : Str), Lens T B → Lens (Dv.layH T h ts) (B + ts.length)
  | [], _, _, _, l => l
  | x :: ts, T, B, h, l => by
    have := Lens.layH (ts := ts) h (l.add h x)
    exact this.up (by simp; omega)
theorem Lens.layT {ts : List Str} : ∀ {hs : List Str} {T : Tab} {B : Nat}, Lens T B → Lens (Dv.layT T hs ts) (B + hs.length * ts.length)
  | [], _, _, l => l.up (Nat.le_add_right _ _)
  | h :: hs, T, B, l => by
    have := Lens.layT (ts := ts) (hs := hs) (l.layH (ts := ts) h)
    refine this.up ?_
    rw [List.length_cons, Nat.add_mul]
    omega
theorem Tab.find {T : Tab} (nk : T.ks.Nodup) {h : Str} (m : h ∈ T.ks) : ∃ e ∈ T, e.1 = h ∧ valV (T.map fun e => ((Sum.inr e.1 : Key), V.ref e.2.1)) (Sum.inr h) = some (.ref e.2.1) ∧ ∀ e' ∈ T, e'.1 = h → e' = e := by
  induction T with
  | nil => cases m
  | cons e T ih =>
    obtain ⟨n1, n2⟩ := List.nodup_cons.mp nk
    by_cases c : e.1 = h
    · refine ⟨e, List.mem_cons_self, c, valV_pos (by show Sum.inr e.1 = Sum.inr h; rw [c]), fun e' he' k => ?_⟩
      rcases List.mem_cons.mp he' with z | z
      · exact z
      · exact absurd (List.mem_map.mpr ⟨e', z, k.trans c.symm⟩) n1
    · have m' : h ∈ Tab.ks T := by
        rcases List.mem_cons.mp m with z | z
        · exact absurd z.symm c
        · exact z
      obtain ⟨e', h1, h2, h3, h4⟩ := ih n2 m'
      refine ⟨e', List.mem_cons_of_mem _ h1, h2, ?_, fun e2 he2 k => ?_⟩
      · show valV ((Sum.inr e.1, V.ref e.2.1) :: _) _ = _
        rw [valV_neg (show ¬ (Sum.inr e.1 : Key) = Sum.inr h from fun z => c (Sum.inr.inj z))]
        exact h3
      · rcases List.mem_cons.mp he2 with z | z
        · exact absurd (z ▸ k) c
        · exact h4 e2 z k
structure Chg (T : Tab) (H H' : Hp) : Prop where
  keep : ∀ a o, H a = some o → a ∉ T.as → H' a = some o
  live : ∀ a, H a ≠ none → H' a ≠ none
theorem Chg.refl {T : Tab} {H : Hp} : Chg T H H := ⟨fun _ _ h _ => h, fun _ h => h⟩
theorem Chg.trans {T T' : Tab} {H H1 H2 : Hp} (a : Chg T H H1) (b : Chg T' H1 H2) (h : T'.as = T.as) : Chg T H H2 := ⟨fun x o e n => b.keep x o (a.keep x o e n) (by rw [h]; exact n), fun x e => b.live x (a.live x e)⟩
theorem TabAt.add {H : Hp} {t : Addr} {T : Tab} (w : TabAt H t T) {e : Str × Addr × List Str} {h x : Str} (he : e ∈ T) (k : e.1 = h) (n : x ∉ e.2.2) : TabAt (upd H e.2.1 (.lst ((e.2.2 ++ [x]).map V.str))) t (addOne T h x) ∧ Chg T H (upd H e.2.1 (.lst ((e.2.2 ++ [x]).map V.str))) := by
  have inj : ∀ e1 ∈ T, e1.2.1 = e.2.1 → e1 = e := fun e1 h1 q => by
    have nd := w.nd
    clear w
    induction T with
    | nil => cases h1
    | cons d T ih =>
      obtain ⟨n1, n2⟩ := List.nodup_cons.mp nd
      rcases List.mem_cons.mp h1 with a | a
      · rcases List.mem_cons.mp he with b | b
        · rw [a, b]
        · rw [a] at q; exact absurd (List.mem_map.mpr ⟨e, b, q.symm⟩) n1
      · rcases List.mem_cons.mp he with b | b
        · rw [b] at q; exact absurd (List.mem_map.mpr ⟨e1, a, q⟩) n1
        · exact ih b a n2
  have nt : t ≠ e.2.1 := fun z => by
    have := w.dc
    rw [z, w.ls e he] at this
    cases this
  obtain ⟨e0, _, _, _, uq⟩ := Tab.find w.nk (h := h) (List.mem_map.mpr ⟨e, he, k⟩)
  have ue : ∀ e' ∈ T, e'.1 = h → e' = e := fun e' h' k' => (uq e' h' k').trans (uq e he k).symm
  refine ⟨⟨?_, fun e1 h1 => ?_, by rw [add_as]; exact w.nd, by rw [add_ks]; exact w.nk⟩, fun a o ha na => ?_, fun a ha => ?_⟩
  · rw [upd_ne nt, w.dc]
    unfold addOne
    rw [List.map_map]
    congr 2
    refine List.map_congr_left fun e1 _ => ?_
    show _ = (Sum.inr (if e1.1 = h then _ else e1).1, V.ref (if e1.1 = h then _ else e1).2.1)
    by_cases c : e1.1 = h
    · rw [if_pos c]
    · rw [if_neg c]
  · obtain ⟨e2, h2, rfl⟩ := List.mem_map.mp h1
    by_cases c : e2.1 = h
    · have := ue e2 h2 c
      subst this
      rw [if_pos c, if_neg n]
      exact upd_same
    · rw [if_neg c]
      rw [upd_ne fun z => c (by rw [inj e2 h2 z]; exact k)]
      exact w.ls e2 h2
  · rw [upd_ne fun z => na (List.mem_map.mpr ⟨e, he, z.symm⟩)]
    exact ha
  · by_cases c : a = e.2.1
    · rw [c, upd_same]; exact fun z => nomatch z
    · rw [upd_ne c]; exact ha
theorem add_same {T : Tab} (nk : T.ks.Nodup) {e : Str × Addr × List Str} {h x : Str} (he : e ∈ T) (k : e.1 = h) (n : x ∈ e.2.2) : addOne T h x = T := by
  obtain ⟨e0, _, _, _, uq⟩ := Tab.find nk (h := h) (List.mem_map.mpr ⟨e, he, k⟩)
  unfold addOne
  conv => rhs; rw [← List.map_id T]
  refine List.map_congr_left fun e1 h1 => ?_
  by_cases c : e1.1 = h
  · have := (uq e1 h1 c).trans (uq e he k).symm
    subst this
    rw [if_pos c, if_pos n]
    rfl
  · rw [if_neg c]
    rfl
/-- lay(table, heads, tails) -/
abbrev bLay : S := .for_ (.itL (.var 1)) [3] (.for_ (.itL (.var 2)) [4] (.ite (.cmp .notin (.var 4) (.idx (.var 0) (.var 3))) (.ex (.mutE .append (.idx (.var 0) (.var 3)) (.cons (.var 4) .nil))) .skip))
def spLay (n : Nat) : Sp := fun vs H Q _ => 0 < n ∧ ∃ (t h l : Addr) (T : Tab) (hs ts : List Str) (B : Nat), vs = [.ref t, .ref h, .ref l] ∧ TabAt H t T ∧ H h = some (.lst (hs.map V.str)) ∧ H l = some (.lst (ts.map V.str)) ∧ h ∉ T.as ∧ l ∉ T.as ∧
  (∀ x ∈ hs, x ∈ T.ks) ∧ Lens T B ∧ B + hs.length * ts.length ≤ 1000000 ∧ ∀ H', TabAt H' t (layT T hs ts) → Chg T H H' → Q .non H'
theorem strs_flat (l : List Str) : (l.map V.str).all flatV = true := by
  induction l with
  | nil => rfl
  | cons x l ih => rw [List.map_cons, List.all_cons, ih]; rfl
theorem inV_str (s : Str) : ∀ ss : List Str, inV (V.str s) (ss.map V.str) = decide (s ∈ ss)
  | [] => rfl
  | t :: ss => by
    have ih := inV_str s ss
    unfold inV at ih ⊢
    rw [List.map_cons, List.any_cons, ih]
    show ((t == s) || _) = _
    by_cases h : t = s
    · subst h; simp
    · have : ¬ s = t := fun z => h z.symm
      simp [h, this]
theorem lay_body {K : PySem.W.Frag} {Φ : Pm} {n : Nat} {vs : List V} {H : Hp} {Q : VK} {E : XK} {N : List Str} (hN : N.length = 5) (h : spLay n vs H Q E) :
    trS K Φ bLay { nx := fun _ H' => Q .non H', rt := Q } (L2.start N vs) H := by
  obtain ⟨_, t, h, l, T, hs, ts, B, rfl, w, eh, el, nh, nl, hk, ln, hB, q⟩ := h
  have st : L2.start N [V.ref t, .ref h, .ref l] = [some (.ref t), some (.ref h), some (.ref l), none, none] := by
    match N, hN with
    | [_, _, _, _, _], _ => rfl
  rw [st]
  have sz : 2000000 ≤ sizeLine := by decide
  refine ⟨V.ref h, rfl, h, rfl, ⟨_, SqL.of eh⟩, for_list (xs := hs.map V.str) (fun i σ' H' => (∃ u3 u4, σ' = [some (.ref t), some (.ref h), some (.ref l), u3, u4]) ∧ TabAt H' t (layT T (hs.take i) ts) ∧ Chg T H H') ⟨⟨none, none, rfl⟩, by simpa [layT] using w, Chg.refl⟩
    (fun i σ' H' _ p => SqL.of (p.2.2.keep h _ eh nh)) ?_ (fun σ' H' p => ?_)⟩
  · rintro i x σ' H' hx ⟨⟨u3, u4, rfl⟩, w1, c1⟩
    obtain ⟨hd, ehd, rfl⟩ : ∃ hd, hs[i]? = some hd ∧ x = .str hd := by
      rw [List.getElem?_map] at hx
      cases e : hs[i]? with
      | none => rw [e] at hx; cases hx
      | some y => rw [e] at hx; cases hx; exact ⟨y, rfl, rfl⟩
    have mk : hd ∈ T.ks := hk hd (List.mem_of_getElem? ehd)
    have tk : hs.take (i + 1) = hs.take i ++ [hd] := by rw [List.take_add_one, ehd]; rfl
    have lt : layT T (hs.take (i + 1)) ts = layH (layT T (hs.take i) ts) hd ts := by
      rw [tk]
      unfold layT
      rw [List.foldl_append]
      rfl
    have ln1 : Lens (layT T (hs.take i) ts) (B + hs.length * ts.length - ts.length) := by
      have hi : i < hs.length := (List.getElem?_eq_some_iff.mp ehd).1
      refine (ln.layT (ts := ts)).up ?_
      rw [List.length_take]
      have e1 : min i hs.length = i := Nat.min_eq_left (Nat.le_of_lt hi)
      rw [e1]
      have : (i + 1) * ts.length ≤ hs.length * ts.length := Nat.mul_le_mul_right _ hi
      rw [Nat.add_mul] at this
      omega
    have el1 := c1.keep l _ el nl
    have ks1 := layT_ks ts (hs.take i) T
    have as1 := layT_as ts (hs.take i) T
    generalize layT T (hs.take i) ts = T1 at *
    refine ⟨V.ref l, rfl, l, rfl, ⟨_, SqL.of el1⟩, for_list (xs := ts.map V.str) (fun j σ2 H2 => (∃ u4, σ2 = [some (.ref t), some (.ref h), some (.ref l), some (.str hd), u4]) ∧ TabAt H2 t (layH T1 hd (ts.take j)) ∧ Chg T H H2) ⟨⟨u4, rfl⟩, by simpa [layH] using w1, c1⟩
      (fun j σ2 H2 _ p => SqL.of (p.2.2.keep l _ el nl)) ?_ (fun σ2 H2 p => ?_)⟩
    · rintro j y σ2 H2 hy ⟨⟨u4', rfl⟩, w2, c2⟩
      obtain ⟨tl, etl, rfl⟩ : ∃ tl, ts[j]? = some tl ∧ y = .str tl := by
        rw [List.getElem?_map] at hy
        cases e : ts[j]? with
        | none => rw [e] at hy; cases hy
        | some z => rw [e] at hy; cases hy; exact ⟨z, rfl, rfl⟩
      have hj : j < ts.length := (List.getElem?_eq_some_iff.mp etl).1
      have tk2 : ts.take (j + 1) = ts.take j ++ [tl] := by rw [List.take_add_one, etl]; rfl
      have lt2 : layH T1 hd (ts.take (j + 1)) = addOne (layH T1 hd (ts.take j)) hd tl := by
        rw [tk2]
        unfold layH
        rw [List.foldl_append]
        rfl
      have ln2 : Lens (layH T1 hd (ts.take j)) (B + hs.length * ts.length) := by
        refine (ln1.layH (ts := ts.take j) hd).up ?_
        rw [List.length_take]
        have e1 : min j ts.length = j := Nat.min_eq_left (Nat.le_of_lt hj)
        have : 1 * ts.length ≤ hs.length * ts.length := Nat.mul_le_mul_right _ (by
          have hi : i < hs.length := (List.getElem?_eq_some_iff.mp ehd).1
          omega)
        omega
      have ks2 := layH_ks (ts.take j) T1 hd
      have as2 := layH_as (ts.take j) T1 hd
      generalize layH T1 hd (ts.take j) = T2 at *
      obtain ⟨e, he, ek, ev, _⟩ := Tab.find w2.nk (h := hd) (by rw [ks2, ks1]; exact mk)
      have es := w2.ls e he
      have le := ln2 e he
      have go : ∀ (Q' : VK), Q' (.ref e.2.1) H2 → (tOp (rIdx K) (tVar 0) (tVar 3)) [some (.ref t), some (.ref h), some (.ref l), some (.str hd), some (.str tl)] H2 Q' := fun Q' q' =>
        ⟨.ref t, rfl, .str hd, rfl, .inr ⟨t, .ref e.2.1, rfl, by have := DGet.k (k := Sum.inr hd) w2.dc; rw [ev] at this; exact this, q'⟩⟩
      show (tIfS (tTest (tOp (rC K .notin) (tVar 4) (tOp (rIdx K) (tVar 0) (tVar 3)))) (tDrop (tBM K "list" rAppend (tOp (rIdx K) (tVar 0) (tVar 3)) (tCons (tVar 4) tNil))) tNext) _ [some (.ref t), some (.ref h), some (.ref l), some (.str hd), some (.str tl)] H2
      refine ⟨.str tl, rfl, go _ ?_⟩
      refine .inl ⟨e.2.1, _, rfl, .inl (SqL.of es), rfl, strs_flat _, _, rfl, ?_⟩
      rw [inV_str]
      by_cases c : tl ∈ e.2.2
      · have : (if true = true then !decide (tl ∈ e.2.2) else decide (tl ∈ e.2.2)) = false := by simp [c]
        rw [this]
        refine iteF ?_
        show (∃ u4, _) ∧ TabAt H2 t (layH T1 hd (ts.take (j + 1))) ∧ Chg T H H2
        rw [lt2, add_same w2.nk he ek c]
        exact ⟨⟨_, rfl⟩, w2, c2⟩
      · have : (if true = true then !decide (tl ∈ e.2.2) else decide (tl ∈ e.2.2)) = true := by simp [c]
        rw [this]
        refine iteT ?_
        show (tOp (rIdx K) (tVar 0) (tVar 3)) _ H2 _
        refine go _ ?_
        refine ⟨.inl ⟨rfl, _, SqL.of es⟩, .str tl, rfl, e.2.1, _, .str tl, rfl, rfl, es, by rw [List.length_map]; omega, ?_⟩
        obtain ⟨w3, c3⟩ := w2.add he ek c
        have em : e.2.2.map V.str ++ [V.str tl] = (e.2.2 ++ [tl]).map V.str := by rw [List.map_append]; rfl
        rw [em]
        show (∃ u4, _) ∧ TabAt _ t (layH T1 hd (ts.take (j + 1))) ∧ Chg T H _
        rw [lt2]
        exact ⟨⟨_, rfl⟩, w3, c2.trans c3 (as2.trans as1)⟩
    · obtain ⟨⟨u4', rfl⟩, w2, c2⟩ := p
      rw [List.length_map, List.take_length] at w2
      refine ⟨⟨_, _, rfl⟩, ?_, c2⟩
      rw [lt]
      exact w2
  · obtain ⟨_, w1, c1⟩ := p
    rw [List.length_map, List.take_length] at w1
    exact q H' w1 c1
end Dv
namespace Dv
open PySem PySem.Spec L2
/-! ### patterns -/
inductive Pat where
  | none | one (s : Str) | row (ps : List Pat) | any (ps : List Pat) | maybe (p : Pat) | many (p : Pat) | some (p : Pat)
def clsP : Pat → Nat
  | .none => 0 | .one _ => 1 | .row _ => 2 | .any _ => 3 | .maybe _ => 4 | .some _ => 5 | .many _ => 6
mutual
/-- the object of a pattern -/
def oP : Pat → D
  | .none => .obj 0 ["within"] [.nw (.lst [])]
  | .one s => .obj 1 ["within", "sign"] [.nw (.lst []), .str s]
  | .row ps => .obj 2 ["within"] [.nw (.lst (oPs ps))]
  | .any ps => .obj 3 ["within"] [.nw (.lst (oPs ps))]
  | .maybe p => .obj 4 ["within"] [.nw (.lst [.nw (oP p)])]
  | .some p => .obj 5 ["within"] [.nw (.lst [.nw (oP p)])]
  | .many p => .obj 6 ["within"] [.nw (.lst [.nw (oP p)])]
def oPs : List Pat → List D
  | [] => []
  | p :: ps => .nw (oP p) :: oPs ps
end
def kids : Pat → List Pat
  | .none => [] | .one _ => [] | .row ps => ps | .any ps => ps | .maybe p => [p] | .some p => [p] | .many p => [p]
theorem oPs_map : ∀ ps : List Pat, oPs ps = ps.map fun p => .nw (oP p)
  | [] => rfl
  | p :: ps => by rw [oPs, oPs_map ps]; rfl
mutual
def dpP : Pat → Nat
  | .none => 1 | .one _ => 1 | .row ps => 1 + dpPs ps | .any ps => 1 + dpPs ps | .maybe p => 1 + dpP p | .some p => 1 + dpP p | .many p => 1 + dpP p
def dpPs : List Pat → Nat
  | [] => 0
  | p :: ps => max (dpP p) (dpPs ps)
end
theorem dp_pos : ∀ p : Pat, 1 ≤ dpP p
  | .none => by simp [dpP]
  | .one _ => by simp [dpP]
  | .row _ => by simp [dpP]
  | .any _ => by simp [dpP]
  | .maybe _ => by simp [dpP]
  | .some _ => by simp [dpP]
  | .many _ => by simp [dpP]
theorem dp_mem : ∀ {ps : List Pat} {q : Pat}, q ∈ ps → dpP q ≤ dpPs ps
  | p :: ps, q, h => by
    rw [dpPs]
    rcases List.mem_cons.mp h with e | e
    · subst e; omega
    · have := dp_mem e; omega
theorem dp_kid {p q : Pat} (h : q ∈ kids p) : dpP q < dpP p := by
  cases p with
  | none => cases h
  | one s => cases h
  | row ps => have := dp_mem (show q ∈ ps from h); simp only [dpP]; omega
  | any ps => have := dp_mem (show q ∈ ps from h); simp only [dpP]; omega
  | maybe p => cases List.mem_singleton.mp h; simp only [dpP]; omega
  | some p => cases List.mem_singleton.mp h; simp only [dpP]; omega
  | many p => cases List.mem_singleton.mp h; simp only [dpP]; omega
mutual
/-- how many tuples -/
def wdP : Pat → Nat
  | .none => 1 | .one _ => 1 | .row ps => 1 + wdPs ps | .any ps => 1 + wdPs ps | .maybe p => 1 + wdP p | .some p => 1 + wdP p | .many p => 1 + wdP p
def wdPs : List Pat → Nat
  | [] => 0
  | p :: ps => wdP p + wdPs ps
end
theorem wd_pos (p : Pat) : 1 ≤ wdP p := by cases p <;> simp [wdP]
theorem wd_len : ∀ ps : List Pat, ps.length ≤ wdPs ps
  | [] => Nat.le_refl _
  | p :: ps => by
    have := wd_len ps
    have := wd_pos p
    simp only [wdPs, List.length_cons]
    omega
theorem wd_kids (p : Pat) : wdPs (kids p) < wdP p := by cases p <;> simp [wdP, wdPs, kids] <;> omega
theorem wd_mem : ∀ {ps : List Pat} {q : Pat}, q ∈ ps → wdP q ≤ wdPs ps
  | p :: ps, q, h => by
    rw [wdPs]
    rcases List.mem_cons.mp h with e | e
    · subst e; omega
    · have := wd_mem e; omega
mutual
def bareP : Pat → Bool
  | .none => true | .one _ => false | .row ps => bareAll ps | .any ps => bareAny ps | .maybe _ => true | .some p => bareP p | .many _ => true
def bareAll : List Pat → Bool
  | [] => true
  | p :: ps => bareP p && bareAll ps
def bareAny : List Pat → Bool
  | [] => false
  | p :: ps => bareP p || bareAny ps
end
mutual
def signsP : Pat → List Str
  | .none => [] | .one s => [s] | .row ps => signsPs ps | .any ps => signsPs ps | .maybe p => signsP p | .some p => signsP p | .many p => signsP p
def signsPs : List Pat → List Str
  | [] => []
  | p :: ps => signsP p ++ signsPs ps
end
mutual
theorem signs_wd : ∀ p : Pat, (signsP p).length ≤ wdP p
  | .none => by simp [signsP]
  | .one _ => by simp [signsP, wdP]
  | .row ps => by have := signs_wds ps; simp only [signsP, wdP]; omega
  | .any ps => by have := signs_wds ps; simp only [signsP, wdP]; omega
  | .maybe p => by have := signs_wd p; simp only [signsP, wdP]; omega
  | .some p => by have := signs_wd p; simp only [signsP, wdP]; omega
  | .many p => by have := signs_wd p; simp only [signsP, wdP]; omega
theorem signs_wds : ∀ ps : List Pat, (signsPs ps).length ≤ wdPs ps
  | [] => Nat.le_refl _
  | p :: ps => by
    have := signs_wd p
    have := signs_wds ps
    simp only [signsPs, wdPs, List.length_append]
    omega
end
mutual
def firstsP : Pat → List Str
  | .none => [] | .one s => [s] | .row ps => firstsRow ps | .any ps => firstsAny ps | .maybe p => firstsP p | .some p => firstsP p | .many p => firstsP p
def firstsRow : List Pat → List Str
  | [] => []
  | p :: ps => firstsP p ++ (if bareP p then firstsRow ps else [])
def firstsAny : List Pat → List Str
  | [] => []
  | p :: ps => firstsP p ++ firstsAny ps
end
mutual
def lastsP : Pat → List Str
  | .none => [] | .one s => [s] | .row ps => lastsRow ps | .any ps => lastsAny ps | .maybe p => lastsP p | .some p => lastsP p | .many p => lastsP p
def lastsRow : List Pat → List Str
  | [] => []
  | p :: ps => (if bareAll ps then lastsP p else []) ++ lastsRow ps
def lastsAny : List Pat → List Str
  | [] => []
  | p :: ps => lastsP p ++ lastsAny ps
end
/-- the ends behind which the next one's begins may stand -/
def headsOf (hs : List Str) (p : Pat) : List Str := (if bareP p then hs else []) ++ lastsP p
mutual
def addT : Pat → Tab → Tab
  | .none, T => T
  | .one _, T => T
  | .row ps, T => addRow ps [] T
  | .any ps, T => addAny ps T
  | .maybe p, T => addT p T
  | .some p, T => layT (addT p T) (lastsP p) (firstsP p)
  | .many p, T => layT (addT p T) (lastsP p) (firstsP p)
def addRow : List Pat → List Str → Tab → Tab
  | [], _, T => T
  | p :: ps, hs, T => addRow ps (headsOf hs p) (layT (addT p T) hs (firstsP p))
def addAny : List Pat → Tab → Tab
  | [], T => T
  | p :: ps, T => addAny ps (addT p T)
end
mutual
/-- how much longer the lists may grow -/
def costP : Pat → Nat
  | .none => 0 | .one _ => 0 | .row ps => costRow ps [] | .any ps => costAny ps | .maybe p => costP p
  | .some p => costP p + (lastsP p).length * (firstsP p).length
  | .many p => costP p + (lastsP p).length * (firstsP p).length
def costRow : List Pat → List Str → Nat
  | [], _ => 0
  | p :: ps, hs => costP p + hs.length * (firstsP p).length + costRow ps (headsOf hs p)
def costAny : List Pat → Nat
  | [] => 0
  | p :: ps => costP p + costAny ps
end
mutual
theorem add_asP : ∀ (p : Pat) (T : Tab), (addT p T).as = T.as ∧ (addT p T).ks = T.ks
  | .none, T => ⟨rfl, rfl⟩
  | .one _, T => ⟨rfl, rfl⟩
  | .row ps, T => add_asRow ps [] T
  | .any ps, T => add_asAny ps T
  | .maybe p, T => add_asP p T
  | .some p, T => ⟨(layT_as _ _ _).trans (add_asP p T).1, (layT_ks _ _ _).trans (add_asP p T).2⟩
  | .many p, T => ⟨(layT_as _ _ _).trans (add_asP p T).1, (layT_ks _ _ _).trans (add_asP p T).2⟩
theorem add_asRow : ∀ (ps : List Pat) (hs : List Str) (T : Tab), (addRow ps hs T).as = T.as ∧ (addRow ps hs T).ks = T.ks
  | [], _, T => ⟨rfl, rfl⟩
  | p :: ps, hs, T => ⟨(add_asRow ps _ _).1.trans ((layT_as _ _ _).trans (add_asP p T).1), (add_asRow ps _ _).2.trans ((layT_ks _ _ _).trans (add_asP p T).2)⟩
theorem add_asAny : ∀ (ps : List Pat) (T : Tab), (addAny ps T).as = T.as ∧ (addAny ps T).ks = T.ks
  | [], T => ⟨rfl, rfl⟩
  | p :: ps, T => ⟨(add_asAny ps _).1.trans (add_asP p T).1, (add_asAny ps _).2.trans (add_asP p T).2⟩
end
mutual
theorem lens_P : ∀ (p : Pat) {T : Tab} {B : Nat}, Lens T B → Lens (addT p T) (B + costP p)
  | .none, _, _, l => l.up (Nat.le_add_right _ _)
  | .one _, _, _, l => l.up (Nat.le_add_right _ _)
  | .row ps, _, _, l => lens_Row ps [] l
  | .any ps, _, _, l => lens_Any ps l
  | .maybe p, _, _, l => lens_P p l
  | .some p, _, _, l => ((lens_P p l).layT).up (by simp only [costP]; omega)
  | .many p, _, _, l => ((lens_P p l).layT).up (by simp only [costP]; omega)
theorem lens_Row : ∀ (ps : List Pat) (hs : List Str) {T : Tab} {B : Nat}, Lens T B → Lens (addRow ps hs T) (B + costRow ps hs)
  | [], _, _, _, l => l.up (Nat.le_add_right _ _)
  | p :: ps, hs, _, _, l => (lens_Row ps (headsOf hs p) ((lens_P p l).layT)).up (by simp only [costRow]; omega)
theorem lens_Any : ∀ (ps : List Pat) {T : Tab} {B : Nat}, Lens T B → Lens (addAny ps T) (B + costAny ps)
  | [], _, _, l => l.up (Nat.le_add_right _ _)
  | p :: ps, _, _, l => (lens_Any ps (lens_P p l)).up (by simp only [costAny]; omega)
end
mutual
theorem firsts_sub : ∀ (p : Pat) {x : Str}, x ∈ firstsP p → x ∈ signsP p
  | .none, _, h => h
  | .one _, _, h => h
  | .row ps, _, h => firsts_subR ps h
  | .any ps, _, h => firsts_subA ps h
  | .maybe p, _, h => firsts_sub p h
  | .some p, _, h => firsts_sub p h
  | .many p, _, h => firsts_sub p h
theorem firsts_subR : ∀ (ps : List Pat) {x : Str}, x ∈ firstsRow ps → x ∈ signsPs ps
  | [], _, h => h
  | p :: ps, x, h => by
    rw [signsPs, List.mem_append]
    rcases List.mem_append.mp (show x ∈ firstsP p ++ (if bareP p then firstsRow ps else []) from h) with h | h
    · exact .inl (firsts_sub p h)
    · by_cases c : bareP p = true
      · rw [if_pos c] at h; exact .inr (firsts_subR ps h)
      · rw [if_neg c] at h; cases h
theorem firsts_subA : ∀ (ps : List Pat) {x : Str}, x ∈ firstsAny ps → x ∈ signsPs ps
  | [], _, h => h
  | p :: ps, x, h => by
    rw [signsPs, List.mem_append]
    exact (List.mem_append.mp (show x ∈ firstsP p ++ firstsAny ps from h)).imp (firsts_sub p) (firsts_subA ps)
end
mutual
theorem lasts_sub : ∀ (p : Pat) {x : Str}, x ∈ lastsP p → x ∈ signsP p
  | .none, _, h => h
  | .one _, _, h => h
  | .row ps, _, h => lasts_subR ps h
  | .any ps, _, h => lasts_subA ps h
  | .maybe p, _, h => lasts_sub p h
  | .some p, _, h => lasts_sub p h
  | .many p, _, h => lasts_sub p h
theorem lasts_subR : ∀ (ps : List Pat) {x : Str}, x ∈ lastsRow ps → x ∈ signsPs ps
  | [], _, h => h
  | p :: ps, x, h => by
    rw [signsPs, List.mem_append]
    rcases List.mem_append.mp (show x ∈ (if bareAll ps then lastsP p else []) ++ lastsRow ps from h) with h | h
    · by_cases c : bareAll ps = true
      · rw [if_pos c] at h; exact .inl (lasts_sub p h)
      · rw [if_neg c] at h; cases h
    · exact .inr (lasts_subR ps h)
theorem lasts_subA : ∀ (ps : List Pat) {x : Str}, x ∈ lastsAny ps → x ∈ signsPs ps
  | [], _, h => h
  | p :: ps, x, h => by
    rw [signsPs, List.mem_append]
    exact (List.mem_append.mp (show x ∈ lastsP p ++ lastsAny ps from h)).imp (lasts_sub p) (lasts_subA ps)
end
/-! ### how an object of a pattern stands -/
variable {cl : Ct}
theorem oP_at {M : Hp} {p : Pat} {v : V} (r : Rep cl M (oP p) v) : ∃ a dx fs l us, v = .ref a ∧ M a = some (.ins (cl.c (clsP p)) dx fs) ∧ fs.lookup ("within" : Str) = some (.ref l) ∧ (∀ m : Str, m ≠ "within" → m ≠ "sign" → fs.lookup m = none) ∧ M l = some (.lst us) ∧ Reps cl M ((kids p).map fun q => .nw (oP q)) us := by
  have main : ∀ (c : Nat) (ns : List Str) (xs : List D) (ds : List D), Rep cl M (.obj c ns xs) v → valN ns xs "within" = some (.nw (.lst ds)) → (∀ m : Str, m ≠ "within" → m ≠ "sign" → m ∉ ns) →
      ∃ a dx fs l us, v = .ref a ∧ M a = some (.ins (cl.c c) dx fs) ∧ fs.lookup ("within" : Str) = some (.ref l) ∧ (∀ m : Str, m ≠ "within" → m ≠ "sign" → fs.lookup m = none) ∧ M l = some (.lst us) ∧ Reps cl M ds us := by
    intro c ns xs ds r hv hn
    obtain ⟨a, dx, fs, rfl, m, rfl, rf⟩ := r
    obtain ⟨w, l, rw⟩ := valN_ok rf hv
    obtain ⟨⟨b, us, rfl, mb, ru⟩, _⟩ := rw
    exact ⟨a, dx, fs, b, us, rfl, m, l, fun m h1 h2 => no_lookup (hn m h1 h2), mb, ru⟩
  have one : ∀ m : Str, m ≠ "within" → m ≠ "sign" → m ∉ (["within"] : List Str) := fun m h1 h2 h => h1 (List.mem_singleton.mp h)
  have v1 : ∀ x : D, valN ["within"] [x] "within" = some x := fun x => by show (if ("within" : Str) = "within" then some x else _) = _; rw [if_pos rfl]
  cases p with
  | none => exact main 0 _ _ [] r (v1 _) one
  | one s =>
    refine main 1 _ _ [] r ?_ fun m h1 h2 h => ?_
    · show (if ("within" : Str) = "within" then _ else _) = _
      rw [if_pos rfl]
    · rcases List.mem_cons.mp h with e | e
      · exact h1 e
      · exact h2 (List.mem_singleton.mp e)
  | row ps =>
    have := main 2 _ _ (oPs ps) r (v1 _) one
    rw [oPs_map] at this
    exact this
  | any ps =>
    have := main 3 _ _ (oPs ps) r (v1 _) one
    rw [oPs_map] at this
    exact this
  | maybe q => exact main 4 _ _ [.nw (oP q)] r (v1 _) one
  | some q => exact main 5 _ _ [.nw (oP q)] r (v1 _) one
  | many q => exact main 6 _ _ [.nw (oP q)] r (v1 _) one
/-! ### add_nexts -/
def spAdd (c0 : Ct0) (cs : List Nat) (n : Nat) : Sp := fun vs H Q _ => ∃ (cl : Ct) (M : Hp) (p : Pat) (self : V) (t : Addr) (T : Tab) (B : Nat), cl.toCt0 = c0 ∧ vs = [self, .ref t] ∧ clsP p ∈ cs ∧ Rep cl M (oP p) self ∧ dpP p < n ∧ Same M H ∧ (∀ a, H a = none → cl.N a) ∧
  (∀ a ∈ T.as, M a = none) ∧ TabAt H t T ∧ (∀ x ∈ signsP p, x ∈ T.ks) ∧ Lens T B ∧ B + costP p ≤ 1000000 ∧ wdP p ≤ 100000 ∧ ∀ H', TabAt H' t (addT p T) → Chg T H H' → Q .non H'
/-- a method that hands back a new list of texts -/
def MthL (c0 : Ct0) (Φ : Pm) (n : Nat) (tbl : List (Nat × Nat)) (g : Pat → List Str) : Prop := ∀ p, dpP p < n → wdP p ≤ 100000 → ∃ f sg φ, (clsP p, f) ∈ tbl ∧ SpLe (spOf c0 sg φ) (Φ.sp f) ∧ sg.io = [false] ∧ ∀ d : D, d.un = oP p → φ [d] = some (.lst ((g p).map D.str), true, [])
def MthB (c0 : Ct0) (Φ : Pm) (n : Nat) (tbl : List (Nat × Nat)) (g : Pat → Bool) : Prop := ∀ p, dpP p < n → wdP p ≤ 100000 → ∃ f sg φ, (clsP p, f) ∈ tbl ∧ SpLe (spOf c0 sg φ) (Φ.sp f) ∧ sg.io = [false] ∧ ∀ d : D, d.un = oP p → φ [d] = some (.bl (g p), false, [])
structure AddEnv (c0 : Ct0) (Φ : Pm) (n : Nat) (tA tF tL tB : List (Nat × Nat)) (fL : Nat) : Prop where
  cc : Φ.cc = c0.c
  add : ∀ p : Pat, ∃ f cs, (clsP p, f) ∈ tA ∧ clsP p ∈ cs ∧ Φ.sp f = spAdd c0 cs n
  fst : MthL c0 Φ n tF firstsP
  lst : MthL c0 Φ n tL lastsP
  bar : MthB c0 Φ n tB bareP
  lay : Φ.sp fL = spLay n
theorem TabAt.mono {H H' : Hp} {t : Addr} {T : Tab} (w : TabAt H t T) (s : Same H H') : TabAt H' t T := ⟨s _ _ w.dc, fun e he => s _ _ (w.ls e he), w.nd, w.nk⟩
theorem reps_strs {M : Hp} : ∀ {l : List Str} {vs : List V}, Reps cl M (l.map D.str) vs → vs = l.map V.str
  | [], _, r => r
  | x :: l, _, ⟨v, us, e, a, b⟩ => by
    subst e
    cases (show v = .str x from a)
    rw [reps_strs b]
    rfl
section
variable {c0 : Ct0} {Φ : Pm} {n : Nat} {tA tF tL tB tbl : List (Nat × Nat)} {fL : Nat} {σ : St} {H M : Hp} {t : Addr} {T : Tab} {q : Pat} {m : Str} {i : Nat} {v : V}
theorem rd_lst {g : Pat → List Str} (hm : m ≠ "within") (hm2 : m ≠ "sign") (hcc : Φ.cc = cl.c) (h : MthL cl.toCt0 Φ n tbl g) (hs : σ[i]? = some (some v)) (r : Rep cl M (.nw (oP q)) v) (hd : dpP q < n) (hz : wdP q ≤ 100000) (sm : Same M H) (hf : ∀ a, H a = none → cl.N a) (Q : VK)
    (k : ∀ a H', Same H H' → (∀ a, H a ≠ none → H' a ≠ none) → H a = none → H' a = some (.lst ((g q).map V.str)) → Q (.ref a) H') : tMethD Φ m tbl (tVar i) tNil σ H Q := by
  obtain ⟨a, dx, fs, l, us, rfl, ma, _, no, _, _⟩ := oP_at r.1
  obtain ⟨f, sg, φ, mem, le, io, ph⟩ := h q hd hz
  refine ⟨_, hs, a, clsP q, dx, fs, f, rfl, by rw [hcc]; exact sm _ _ ma, mem, no m hm hm2, ?_⟩
  refine le _ _ _ _ ⟨cl, M, [.nw (oP q)], rfl, hf, sm, by rw [io]; exact ⟨r, trivial⟩, by rw [io]; exact List.nodup_nil, _, _, _, ph _ (by cases q <;> rfl), fun u M' H' fr s' _ ro => ?_⟩
  obtain ⟨b, o, rfl, _, hb, ⟨ws, rfl, rw'⟩, nb⟩ := ro
  have no' : ∀ a, ¬ inA sg.io [V.ref a] a := fun a z => by unfold inA at z; rw [io] at z; cases z
  have sm' : Same H H' := fun a o e => fr.keep a o e fun z => by unfold inA at z; rw [io] at z; cases z
  rw [reps_strs rw'] at hb
  exact k b H' sm' fr.live nb hb
theorem rd_bl {g : Pat → Bool} (hm : m ≠ "within") (hm2 : m ≠ "sign") (hcc : Φ.cc = cl.c) (h : MthB cl.toCt0 Φ n tbl g) (hs : σ[i]? = some (some v)) (r : Rep cl M (.nw (oP q)) v) (hd : dpP q < n) (hz : wdP q ≤ 100000) (sm : Same M H) (hf : ∀ a, H a = none → cl.N a) (Q : VK)
    (k : ∀ H', Same H H' → (∀ a, H a ≠ none → H' a ≠ none) → Q (.bl (g q)) H') : tMethD Φ m tbl (tVar i) tNil σ H Q := by
  obtain ⟨a, dx, fs, l, us, rfl, ma, _, no, _, _⟩ := oP_at r.1
  obtain ⟨f, sg, φ, mem, le, io, ph⟩ := h q hd hz
  refine ⟨_, hs, a, clsP q, dx, fs, f, rfl, by rw [hcc]; exact sm _ _ ma, mem, no m hm hm2, ?_⟩
  refine le _ _ _ _ ⟨cl, M, [.nw (oP q)], rfl, hf, sm, by rw [io]; exact ⟨r, trivial⟩, by rw [io]; exact List.nodup_nil, _, _, _, ph _ (by cases q <;> rfl), fun u M' H' fr s' _ ro => ?_⟩
  have sm' : Same H H' := fun a o e => fr.keep a o e fun z => by unfold inA at z; rw [io] at z; cases z
  cases (show u = .bl (g q) from ro)
  exact k H' sm' fr.live
theorem rd_add' {j : Nat} {B : Nat} (hcc : Φ.cc = cl.c) (h : ∀ p : Pat, ∃ f cs, (clsP p, f) ∈ tA ∧ clsP p ∈ cs ∧ Φ.sp f = spAdd cl.toCt0 cs n) (ht : σ[j]? = some (some (.ref t))) (r : Rep cl M (oP q) v) (hd : dpP q < n) (sm : Same M H) (hf : ∀ a, H a = none → cl.N a)
    (fr : ∀ a ∈ T.as, M a = none) (w : TabAt H t T) (hk : ∀ x ∈ signsP q, x ∈ T.ks) (ln : Lens T B) (hB : B + costP q ≤ 1000000) (hs : wdP q ≤ 100000) (Q : VK)
    (k : ∀ H', TabAt H' t (addT q T) → Chg T H H' → Q .non H') : ∃ a c dx fs f, v = .ref a ∧ H a = some (.ins (Φ.cc c) dx fs) ∧ (c, f) ∈ tA ∧ fs.lookup ("add_nexts" : Str) = none ∧ (tCons (tVar j) tNil) σ H fun vs H2 => Φ.sp f (v :: vs) H2 Q Φ.xk := by
  obtain ⟨a, dx, fs, l, us, rfl, ma, _, no, _, _⟩ := oP_at r
  obtain ⟨f, cs, mem, hc, e⟩ := h q
  refine ⟨a, clsP q, dx, fs, f, rfl, by rw [hcc]; exact sm _ _ ma, mem, no _ (by decide +kernel) (by decide +kernel), ?_⟩
  refine ⟨.ref t, ht, ?_⟩
  show Φ.sp f [V.ref a, .ref t] H Q Φ.xk
  rw [e]
  exact ⟨cl, M, q, _, t, T, B, rfl, rfl, hc, r, hd, sm, hf, fr, w, hk, ln, hB, hs, k⟩
theorem rd_add {j : Nat} {B : Nat} (hcc : Φ.cc = cl.c) (h : ∀ p : Pat, ∃ f cs, (clsP p, f) ∈ tA ∧ clsP p ∈ cs ∧ Φ.sp f = spAdd cl.toCt0 cs n) (hs : σ[i]? = some (some v)) (ht : σ[j]? = some (some (.ref t))) (r : Rep cl M (oP q) v) (hd : dpP q < n) (sm : Same M H) (hf : ∀ a, H a = none → cl.N a)
    (fr : ∀ a ∈ T.as, M a = none) (w : TabAt H t T) (hk : ∀ x ∈ signsP q, x ∈ T.ks) (ln : Lens T B) (hB : B + costP q ≤ 1000000) (hz : wdP q ≤ 100000) (Q : VK)
    (k : ∀ H', TabAt H' t (addT q T) → Chg T H H' → Q .non H') : tMethD Φ "add_nexts" tA (tVar i) (tCons (tVar j) tNil) σ H Q :=
  ⟨v, hs, rd_add' hcc h ht r hd sm hf fr w hk ln hB hz Q k⟩
end
end Dv
namespace Dv
open PySem PySem.Spec L2
/-! ### the bodies of add_nexts -/
abbrev allC : List Nat := [0, 1, 2, 3, 4, 5, 6]
abbrev bAddP (tA : List (Nat × Nat)) : S := .for_ (.itL (.fld allC (.var 0) "within")) [2] (.ex (.meth "add_nexts" tA (.var 2) (.cons (.var 1) .nil)))
abbrev bAddR (tA tF tL tB : List (Nat × Nat)) (fL : Nat) : S := .seq (.setk 2 (.lst .nil)) (.for_ (.itL (.fld allC (.var 0) "within")) [3] (.seq (.ex (.meth "add_nexts" tA (.var 3) (.cons (.var 1) .nil)))
  (.seq (.ex (.call fL (.cons (.var 1) (.cons (.var 2) (.cons (.meth "firsts" tF (.var 3) .nil) .nil))))) (.seq (.ite (.nt (.meth "bare" tB (.var 3) .nil)) (.setk 2 (.lst .nil)) .skip) (.setk 2 (.bin .add (.var 2) (.meth "lasts" tL (.var 3) .nil)))))))
abbrev bAddS (tA tF tL : List (Nat × Nat)) (fL : Nat) : S := .for_ (.itL (.fld allC (.var 0) "within")) [2] (.seq (.ex (.meth "add_nexts" tA (.var 2) (.cons (.var 1) .nil)))
  (.ex (.call fL (.cons (.var 1) (.cons (.meth "lasts" tL (.var 2) .nil) (.cons (.meth "firsts" tF (.var 2) .nil) .nil))))))
theorem cls_all (p : Pat) : clsP p ∈ allC := by cases p <;> simp [clsP, allC]
theorem drop_at {α : Type} {xs : List α} {i : Nat} {x : α} (h : xs[i]? = some x) : xs.drop i = x :: xs.drop (i + 1) := by
  obtain ⟨hi, e⟩ := List.getElem?_eq_some_iff.mp h
  rw [List.drop_eq_getElem_cons hi, e]
theorem spAdd_len {c0 : Ct0} {cs : List Nat} {n : Nat} {vs : List V} {H : Hp} {Q : VK} {E : XK} (h : spAdd c0 cs n vs H Q E) : vs.length = 2 := by
  obtain ⟨_, _, _, _, _, _, _, _, rfl, _⟩ := h
  rfl
theorem spAdd_no {c0 : Ct0} {cs : List Nat} {vs : List V} {H : Hp} {Q : VK} {E : XK} : ¬ spAdd c0 cs 0 vs H Q E := fun ⟨_, _, p, _, _, _, _, _, _, _, _, h, _⟩ => by have := dp_pos p; omega
theorem spLay_len {n : Nat} {vs : List V} {H : Hp} {Q : VK} {E : XK} (h : spLay n vs H Q E) : vs.length = 3 := by
  obtain ⟨_, _, _, _, _, _, _, _, rfl, _⟩ := h
  rfl
theorem spLay_no {vs : List V} {H : Hp} {Q : VK} {E : XK} : ¬ spLay 0 vs H Q E := fun ⟨h, _⟩ => by omega
theorem lasts_len : ∀ {l : List Str} {p : Pat}, True := trivial
mutual
theorem lastsP_len : ∀ p : Pat, (lastsP p).length ≤ (signsP p).length
  | .none => Nat.le_refl _
  | .one _ => Nat.le_refl _
  | .row ps => lastsR_len ps
  | .any ps => lastsA_len ps
  | .maybe p => lastsP_len p
  | .some p => lastsP_len p
  | .many p => lastsP_len p
theorem lastsR_len : ∀ ps : List Pat, (lastsRow ps).length ≤ (signsPs ps).length
  | [] => Nat.le_refl _
  | p :: ps => by
    have a := lastsP_len p
    have b := lastsR_len ps
    rw [lastsRow, signsPs, List.length_append, List.length_append]
    by_cases c : bareAll ps = true
    · rw [if_pos c]; omega
    · rw [if_neg c]; simp; omega
theorem lastsA_len : ∀ ps : List Pat, (lastsAny ps).length ≤ (signsPs ps).length
  | [] => Nat.le_refl _
  | p :: ps => by
    have a := lastsP_len p
    have b := lastsA_len ps
    rw [lastsAny, signsPs, List.length_append, List.length_append]
    omega
end
mutual
theorem firstsP_len : ∀ p : Pat, (firstsP p).length ≤ (signsP p).length
  | .none => Nat.le_refl _
  | .one _ => Nat.le_refl _
  | .row ps => firstsR_len ps
  | .any ps => firstsA_len ps
  | .maybe p => firstsP_len p
  | .some p => firstsP_len p
  | .many p => firstsP_len p
theorem firstsR_len : ∀ ps : List Pat, (firstsRow ps).length ≤ (signsPs ps).length
  | [] => Nat.le_refl _
  | p :: ps => by
    have a := firstsP_len p
    have b := firstsR_len ps
    rw [firstsRow, signsPs, List.length_append, List.length_append]
    by_cases c : bareP p = true
    · rw [if_pos c]; omega
    · rw [if_neg c]; simp; omega
theorem firstsA_len : ∀ ps : List Pat, (firstsAny ps).length ≤ (signsPs ps).length
  | [] => Nat.le_refl _
  | p :: ps => by
    have a := firstsP_len p
    have b := firstsA_len ps
    rw [firstsAny, signsPs, List.length_append, List.length_append]
    omega
end
theorem lasts_snoc (q : Pat) : ∀ ps : List Pat, lastsRow (ps ++ [q]) = (if bareP q then lastsRow ps else []) ++ lastsP q
  | [] => by simp [lastsRow, bareAll]
  | p :: ps => by
    have ih := lasts_snoc q ps
    have ba : bareAll (ps ++ [q]) = (bareAll ps && bareP q) := by
      clear ih
      induction ps with
      | nil => simp [bareAll]
      | cons p ps ih => simp [bareAll, ih, Bool.and_assoc]
    rw [List.cons_append, lastsRow, ih, ba, lastsRow]
    by_cases c : bareP q = true
    · simp [c]
    · simp [c]
theorem str_at {l : List Str} {i : Nat} {x : V} (h : (l.map V.str)[i]? = some x) : ∃ s, l[i]? = some s ∧ x = .str s := by
  rw [List.getElem?_map] at h
  cases e : l[i]? with
  | none => rw [e] at h; cases h
  | some y => rw [e] at h; cases h; exact ⟨y, rfl, rfl⟩
section
variable {c0 : Ct0} {Φ : Pm} {n : Nat} {tA tF tL tB : List (Nat × Nat)} {fL : Nat} {vs : List V} {H : Hp} {Q : VK} {E : XK} {N : List Str} {cs : List Nat}
theorem kid_at {cl : Ct} {M : Hp} {ks : List Pat} {us : List V} (r : Reps cl M (ks.map fun q => .nw (oP q)) us) {i : Nat} {x : V} (h : us[i]? = some x) : ∃ q, ks[i]? = some q ∧ Rep cl M (.nw (oP q)) x := by
  have hi : i < ks.length := by
    have := r.length
    rw [List.length_map] at this
    have := (List.getElem?_eq_some_iff.mp h).1
    omega
  obtain ⟨w, e1, e2⟩ := r.get (i := i) (d := .nw (oP ks[i])) (by rw [List.getElem?_map, List.getElem?_eq_getElem hi]; rfl)
  rw [h] at e1
  cases e1
  exact ⟨_, List.getElem?_eq_getElem hi, e2⟩
/-- what a pattern of these classes does -/
theorem addP_body (A : ∀ p : Pat, ∃ f cs, (clsP p, f) ∈ tA ∧ clsP p ∈ cs ∧ Φ.sp f = spAdd c0 cs n) (hcc : Φ.cc = c0.c) (hcs : ∀ c ∈ cs, c ∈ [0, 1, 3, 4]) (hN : N.length = 3) (h : spAdd c0 cs (n + 1) vs H Q E) :
    trS c0.K Φ (bAddP tA) { nx := fun _ H' => Q .non H', rt := Q } (L2.start N vs) H := by
  obtain ⟨cl, M, p, self, t, T, B, rfl, rfl, hc, r, hd, sm, hf, fr, w, hk, ln, hB, hz, q⟩ := h
  have st : L2.start N [self, .ref t] = [some self, some (.ref t), none] := by
    match N, hN with
    | [_, _, _], _ => rfl
  rw [st]
  have ea : addT p T = addAny (kids p) T ∧ costP p = costAny (kids p) ∧ (∀ x ∈ signsPs (kids p), x ∈ signsP p) := by
    have hc := hcs _ hc
    cases p with
    | none => exact ⟨rfl, rfl, fun x h => h⟩
    | one s => exact ⟨rfl, rfl, (fun x h => by cases h)⟩
    | any ps => exact ⟨rfl, rfl, fun x h => h⟩
    | maybe p => exact ⟨rfl, by simp [costP, kids, costAny], fun x h => by simpa [kids, signsPs, signsP] using h⟩
    | row ps => revert hc; simp [clsP]
    | some p => revert hc; simp [clsP]
    | many p => revert hc; simp [clsP]
  obtain ⟨ea, ec, es⟩ := ea
  have ez := wd_kids p
  rw [ea] at q
  rw [ec] at hB
  have hks : ∀ x ∈ signsPs (kids p), x ∈ T.ks := fun x h => hk x (es x h)
  have hkd : ∀ k ∈ kids p, dpP k < n := fun k h => by have := dp_kid h; omega
  obtain ⟨a, dx, fs, l, us, rfl, ma, lw, _, ml, ru⟩ := oP_at r
  refine ⟨.ref a, rfl, a, clsP p, dx, fs, .ref l, rfl, by rw [hcc]; exact sm _ _ ma, cls_all p, lw, l, rfl, ⟨us, SqL.of (sm _ _ ml)⟩, ?_⟩
  have len := ru.length
  rw [List.length_map] at len
  generalize kids p = ks at *
  have hlst : ∀ {H' : Hp}, Chg T H H' → Same M H' := fun c x o e => c.keep x o (sm _ _ e) fun z => by rw [fr x z] at e; cases e
  refine for_list (xs := us) (fun i σ' H' => (∃ u, σ' = [some (.ref a), some (.ref t), u]) ∧ ∃ T' B', addAny (ks.drop i) T' = addAny ks T ∧ T'.as = T.as ∧ T'.ks = T.ks ∧ Lens T' B' ∧ B' + costAny (ks.drop i) ≤ 1000000 ∧ (∀ x ∈ signsPs (ks.drop i), x ∈ T.ks) ∧ wdPs (ks.drop i) ≤ 100000 ∧ TabAt H' t T' ∧ Chg T H H')
    ⟨⟨none, rfl⟩, T, B, rfl, rfl, rfl, ln, hB, hks, by simpa using (by omega : wdPs ks ≤ 100000), w, Chg.refl⟩ (fun i σ' H' _ pv => ?_) ?_ (fun σ' H' pv => ?_)
  · obtain ⟨_, _, _, _, _, _, _, _, _, _, _, c⟩ := pv
    exact SqL.of (hlst c _ _ ml)
  · rintro i x σ' H' hx ⟨⟨u, rfl⟩, T', B', e1, e2, e3, ln', hB', hks', hz', w', c⟩
    obtain ⟨k, ek, rk⟩ := kid_at ru hx
    have dr := drop_at ek
    rw [dr] at e1 hB' hks' hz'
    simp only [costAny] at hB'
    simp only [wdPs] at hz'
    have hs1 : ∀ x ∈ signsP k, x ∈ T'.ks := fun x h => by rw [e3]; exact hks' x (by rw [signsPs]; exact List.mem_append_left _ h)
    show (tDrop (tMethD Φ "add_nexts" tA (tVar 2) (tCons (tVar 1) tNil))) _ [some (V.ref a), some (V.ref t), some x] H'
    refine rd_add (n := n) (T := T') (B := B') hcc A rfl rfl rk.1 (hkd k (List.mem_of_getElem? ek)) (hlst c) (fun a h => hf a (by
      cases z : H a with
      | none => rfl
      | some o => exact absurd h (c.live a (by rw [z]; exact fun z => nomatch z)))) (fun a h => fr a (by rw [← e2]; exact h)) w' hs1 ln' (by omega) (by omega) _ fun H2 w2 c2 => ?_
    refine ⟨⟨_, rfl⟩, addT k T', B' + costP k, e1, (add_asP k T').1.trans e2, (add_asP k T').2.trans e3, lens_P k ln', by omega, fun x h => hks' x (by rw [signsPs]; exact List.mem_append_right _ h), by omega, w2, c.trans c2 e2⟩
  · obtain ⟨_, T', B', e1, _, _, _, _, _, _, w', c⟩ := pv
    rw [List.drop_eq_nil_of_le (by omega)] at e1
    have e1 : T' = addAny ks T := e1
    exact q H' (e1 ▸ w') c
theorem addS_body (A : AddEnv c0 Φ n tA tF tL tB fL) (hcs : ∀ c ∈ cs, c ∈ [5, 6]) (hN : N.length = 3) (h : spAdd c0 cs (n + 1) vs H Q E) :
    trS c0.K Φ (bAddS tA tF tL fL) { nx := fun _ H' => Q .non H', rt := Q } (L2.start N vs) H := by
  obtain ⟨cl, M, p, self, t, T, B, rfl, rfl, hc, r, hd, sm, hf, fr, w, hk, ln, hB, hz, q⟩ := h
  have st : L2.start N [self, .ref t] = [some self, some (.ref t), none] := by
    match N, hN with
    | [_, _, _], _ => rfl
  rw [st]
  obtain ⟨k, ek, ew, ea, ec, es⟩ : ∃ k, kids p = [k] ∧ wdP k ≤ wdP p ∧ addT p T = layT (addT k T) (lastsP k) (firstsP k) ∧ costP p = costP k + (lastsP k).length * (firstsP k).length ∧ signsP p = signsP k := by
    have hc := hcs _ hc
    cases p with
    | none => revert hc; simp [clsP]
    | one s => revert hc; simp [clsP]
    | any ps => revert hc; simp [clsP]
    | maybe p => revert hc; simp [clsP]
    | row ps => revert hc; simp [clsP]
    | some k => exact ⟨k, rfl, by simp [wdP], rfl, rfl, rfl⟩
    | many k => exact ⟨k, rfl, by simp [wdP], rfl, rfl, rfl⟩
  rw [ea] at q
  rw [ec] at hB
  rw [es] at hk
  replace hz := Nat.le_trans ew hz
  have hkd : dpP k < n := by have := dp_kid (p := p) (q := k) (by rw [ek]; exact List.mem_singleton.mpr rfl); omega
  have hn : 0 < n := by have := dp_pos p; omega
  have hcc := A.cc
  obtain ⟨a, dx, fs, l, us, rfl, ma, lw, _, ml, ru⟩ := oP_at r
  rw [ek] at ru
  refine ⟨.ref a, rfl, a, clsP p, dx, fs, .ref l, rfl, by rw [hcc]; exact sm _ _ ma, cls_all p, lw, l, rfl, ⟨us, SqL.of (sm _ _ ml)⟩, ?_⟩
  obtain ⟨x0, us0, rfl, rk, r0⟩ := ru
  cases r0
  have hlst : ∀ {H' : Hp}, Chg T H H' → Same M H' := fun c x o e => c.keep x o (sm _ _ e) fun z => by rw [fr x z] at e; cases e
  have hfr : ∀ {H' : Hp}, Chg T H H' → ∀ a, H' a = none → cl.N a := fun c a h => hf a (by
    cases z : H a with
    | none => rfl
    | some o => exact absurd h (c.live a (by rw [z]; exact fun z => nomatch z)))
  refine for_list (xs := [x0]) (fun i σ' H' => (∃ u, σ' = [some (.ref a), some (.ref t), u]) ∧ Chg T H H' ∧ ((i = 0 ∧ TabAt H' t T) ∨ (0 < i ∧ TabAt H' t (layT (addT k T) (lastsP k) (firstsP k)))))
    ⟨⟨none, rfl⟩, Chg.refl, .inl ⟨rfl, w⟩⟩ (fun i σ' H' _ pv => SqL.of (hlst pv.2.1 _ _ ml)) ?_ (fun σ' H' pv => ?_)
  · rintro i x σ' H' hx ⟨⟨u, rfl⟩, c, pv⟩
    have hi := (List.getElem?_eq_some_iff.mp hx).1
    have i0 : i = 0 := by simpa using hi
    subst i0
    cases hx
    obtain ⟨_, w'⟩ := pv.resolve_right fun z => by omega
    show (tSeq (tDrop (tMethD Φ "add_nexts" tA (tVar 2) (tCons (tVar 1) tNil))) (tDrop (tCall (Φ.sp fL) [] Φ.xk (tCons (tVar 1) (tCons (tMethD Φ "lasts" tL (tVar 2) tNil) (tCons (tMethD Φ "firsts" tF (tVar 2) tNil) tNil)))))) _ [some (V.ref a), some (V.ref t), some x0] H'
    refine rd_add (n := n) (T := T) (B := B) hcc A.add rfl rfl rk.1 hkd (hlst c) (hfr c) fr w' hk ln (by omega) hz _ fun H2 w2 c2 => ?_
    have c12 := c.trans c2 rfl
    refine ⟨.ref t, rfl, ?_⟩
    refine rd_lst (by decide +kernel) (by decide +kernel) hcc A.lst rfl rk hkd hz (hlst c12) (hfr c12) _ fun b H3 s3 l3 nb eb => ?_
    have c13 : Chg T H H3 := c12.trans ⟨fun a o h _ => s3 a o h, l3⟩ rfl
    refine rd_lst (by decide +kernel) (by decide +kernel) hcc A.fst rfl rk hkd hz (hlst c13) (hfr c13) _ fun d H4 s4 l4 nd ed => ?_
    have c14 : Chg T H H4 := c13.trans ⟨fun a o h _ => s4 a o h, l4⟩ rfl
    have w4 := (w2.mono s3).mono s4
    have as1 := (add_asP k T).1
    have ks1 := (add_asP k T).2
    show Φ.sp fL [.ref t, .ref b, .ref d] H4 _ Φ.xk
    rw [A.lay]
    refine ⟨hn, t, b, d, addT k T, lastsP k, firstsP k, B + costP k, rfl, w4, s4 _ _ eb, ed, fun z => ?_, fun z => ?_, fun x h => by rw [ks1]; exact hk x (lasts_sub k h), lens_P k ln, by omega, fun H5 w5 c5 => ?_⟩
    · obtain ⟨e, he, rfl⟩ := List.mem_map.mp z
      rw [w2.ls e he] at nb
      cases nb
    · obtain ⟨e, he, rfl⟩ := List.mem_map.mp z
      rw [(w2.mono s3).ls e he] at nd
      cases nd
    · exact ⟨⟨_, rfl⟩, c14.trans c5 as1, .inr ⟨Nat.zero_lt_succ _, w5⟩⟩
  · obtain ⟨_, c, pv⟩ := pv
    obtain ⟨_, w'⟩ := pv.resolve_left fun z => by have := z.1; simp at this
    exact q H' w' c
theorem addR_body (A : AddEnv c0 Φ n tA tF tL tB fL) (hcs : ∀ c ∈ cs, c ∈ [2]) (hN : N.length = 4) (h : spAdd c0 cs (n + 1) vs H Q E) :
    trS c0.K Φ (bAddR tA tF tL tB fL) { nx := fun _ H' => Q .non H', rt := Q } (L2.start N vs) H := by
  obtain ⟨cl, M, p, self, t, T, B, rfl, rfl, hc, r, hd, sm, hf, fr, w, hk, ln, hB, hz, q⟩ := h
  have st : L2.start N [self, .ref t] = [some self, some (.ref t), none, none] := by
    match N, hN with
    | [_, _, _, _], _ => rfl
  rw [st]
  have sz : 1000000 ≤ sizeLine := by decide
  obtain ⟨ks, rfl⟩ : ∃ ks, p = .row ks := by
    have hc := hcs _ hc
    cases p with
    | none => revert hc; simp [clsP]
    | one s => revert hc; simp [clsP]
    | any ps => revert hc; simp [clsP]
    | maybe p => revert hc; simp [clsP]
    | row ps => exact ⟨ps, rfl⟩
    | some k => revert hc; simp [clsP]
    | many k => revert hc; simp [clsP]
  have q : ∀ H', TabAt H' t (addRow ks [] T) → Chg T H H' → Q .non H' := q
  have hB : B + costRow ks [] ≤ 1000000 := hB
  have hk : ∀ x ∈ signsPs ks, x ∈ T.ks := hk
  have hz : wdPs ks ≤ 100000 := by simp only [wdP] at hz; omega
  have hkd : ∀ k ∈ ks, dpP k < n := fun k h => by have := dp_kid (p := .row ks) h; omega
  have hn : 0 < n := by have := dp_pos (.row ks); omega
  have hcc := A.cc
  obtain ⟨a, dx, fs, l, us, rfl, ma, lw, _, ml, ru⟩ := oP_at r
  have hlst : ∀ {H' : Hp}, Chg T H H' → Same M H' := fun c x o e => c.keep x o (sm _ _ e) fun z => by rw [fr x z] at e; cases e
  have hfr : ∀ {H' : Hp}, Chg T H H' → ∀ a, H' a = none → cl.N a := fun c a h => hf a (by
    cases z : H a with
    | none => rfl
    | some o => exact absurd h (c.live a (by rw [z]; exact fun z => nomatch z)))
  have new : ∀ {H' : Hp} {T' : Tab} {b : Addr}, TabAt H' t T' → T'.as = T.as → H' b = none → b ∉ T.as := fun w' e nb z => by
    rw [← e] at z
    obtain ⟨e, he, rfl⟩ := List.mem_map.mp z
    rw [w'.ls e he] at nb
    cases nb
  -- heads = []
  show (tSeq (tAsg (tLst tNil) (gName 2)) _) _ _ H
  refine ⟨Nat.zero_le _, fun h0 nh0 => ?_⟩
  have c0 : Chg T H (upd H h0 (.lst [])) := ⟨fun x o e _ => by rw [upd_ne (ne_of_none e nh0)]; exact e, fun x e => by
    by_cases c : x = h0
    · rw [c, upd_same]; exact fun z => nomatch z
    · rw [upd_ne c]; exact e⟩
  have s0 : Same H (upd H h0 (.lst [])) := fun x o e => by rw [upd_ne (ne_of_none e nh0)]; exact e
  refine ⟨.ref a, rfl, a, 2, dx, fs, .ref l, rfl, by rw [hcc]; exact hlst c0 _ _ ma, by decide, lw, l, rfl, ⟨us, SqL.of (hlst c0 _ _ ml)⟩, ?_⟩
  have len := ru.length
  rw [List.length_map] at len
  have ru : Reps cl M (ks.map fun q => .nw (oP q)) us := ru
  have len : ks.length = us.length := len
  refine for_list (xs := us) (fun i σ' H' => ∃ hs T' B' hd u, σ' = [some (.ref a), some (.ref t), some (.ref hd), u] ∧ H' hd = some (.lst (hs.map V.str)) ∧ hd ∉ T.as ∧ addRow (ks.drop i) hs T' = addRow ks [] T ∧ T'.as = T.as ∧ T'.ks = T.ks ∧ Lens T' B' ∧ B' + costRow (ks.drop i) hs ≤ 1000000 ∧
      (∀ x ∈ signsPs (ks.drop i), x ∈ T.ks) ∧ (∀ x ∈ hs, x ∈ T.ks) ∧ hs.length + wdPs (ks.drop i) ≤ 100000 ∧ TabAt H' t T' ∧ Chg T H H')
    ⟨[], T, B, h0, none, rfl, upd_same, new w rfl nh0, rfl, rfl, rfl, ln, hB, hk, (fun x h => by cases h), by simpa using hz, w.mono s0, c0⟩ (fun i σ' H' _ pv => ?_) ?_ (fun σ' H' pv => ?_)
  · obtain ⟨_, _, _, _, _, _, _, _, _, _, _, _, _, _, _, _, _, c⟩ := pv
    exact SqL.of (hlst c _ _ ml)
  · rintro i x σ' H' hx ⟨hs, T', B', hd, u, rfl, eh, nh, e1, e2, e3, ln', hB', hks', hhs, hz', w', c⟩
    obtain ⟨k, ek, rk⟩ := kid_at ru hx
    have kd := hkd k (List.mem_of_getElem? ek)
    have dr := drop_at ek
    rw [dr] at e1 hB' hks' hz'
    simp only [costRow] at hB'
    simp only [wdPs] at hz'
    have hs1 : ∀ x ∈ signsP k, x ∈ T'.ks := fun x h => by rw [e3]; exact hks' x (by rw [signsPs]; exact List.mem_append_left _ h)
    show (tSeq (tDrop (tMethD Φ "add_nexts" tA (tVar 3) (tCons (tVar 1) tNil))) (tSeq (tDrop (tCall (Φ.sp fL) [] Φ.xk (tCons (tVar 1) (tCons (tVar 2) (tCons (tMethD Φ "firsts" tF (tVar 3) tNil) tNil))))) (tSeq (tIfS (tNot (tTru cl.K (tMethD Φ "bare" tB (tVar 3) tNil))) (tAsg (tLst tNil) (gName 2)) tNext) (tAsg (tOp (rB .add) (tVar 2) (tMethD Φ "lasts" tL (tVar 3) tNil)) (gName 2))))) _ [some (V.ref a), some (V.ref t), some (V.ref hd), some x] H'
    refine rd_add (n := n) (T := T') (B := B') hcc A.add rfl rfl rk.1 kd (hlst c) (hfr c) (fun a h => fr a (by rw [← e2]; exact h)) w' hs1 ln' (by omega) (by omega) _ fun H2 w2 c2 => ?_
    have c12 := c.trans c2 e2
    have as1 := (add_asP k T').1.trans e2
    have ks1 := (add_asP k T').2.trans e3
    have eh2 : H2 hd = some (.lst (hs.map V.str)) := c2.keep hd _ eh (by rw [e2]; exact nh)
    -- lay
    refine ⟨.ref t, rfl, .ref hd, rfl, ?_⟩
    refine rd_lst (by decide +kernel) (by decide +kernel) hcc A.fst rfl rk kd (by omega) (hlst c12) (hfr c12) _ fun d H3 s3 l3 nd ed => ?_
    have c13 : Chg T H H3 := c12.trans ⟨fun a o h _ => s3 a o h, l3⟩ rfl
    show Φ.sp fL [.ref t, .ref hd, .ref d] H3 _ Φ.xk
    rw [A.lay]
    refine ⟨hn, t, hd, d, addT k T', hs, firstsP k, B' + costP k, rfl, w2.mono s3, s3 _ _ eh2, ed, by rw [as1]; exact nh, by rw [as1]; exact new w2 as1 nd, fun x h => by rw [ks1]; exact hhs x h, lens_P k ln', by omega, fun H4 w4 c4 => ?_⟩
    have c14 := c13.trans c4 as1
    have eh4 : H4 hd = some (.lst (hs.map V.str)) := c4.keep hd _ (s3 _ _ eh2) (by rw [as1]; exact nh)
    have as2 := (layT_as (firstsP k) hs (addT k T')).trans as1
    have ks2 := (layT_ks (firstsP k) hs (addT k T')).trans ks1
    -- the heads of the next one
    have last : ∀ (hs' : List Str) (hd' : Addr) (H5 : Hp), TabAt H5 t (layT (addT k T') hs (firstsP k)) → Chg T H H5 → H5 hd' = some (.lst (hs'.map V.str)) → hd' ∉ T.as → hs' = (if bareP k then hs else []) →
        (tAsg (tOp (rB .add) (tVar 2) (tMethD Φ "lasts" tL (tVar 3) tNil)) (gName 2)) { nx := fun σ' H' => ∃ hs T' B' hd u, σ' = [some (.ref a), some (.ref t), some (.ref hd), u] ∧ H' hd = some (.lst (hs.map V.str)) ∧ hd ∉ T.as ∧ addRow (ks.drop (i + 1)) hs T' = addRow ks [] T ∧ T'.as = T.as ∧ T'.ks = T.ks ∧ Lens T' B' ∧ B' + costRow (ks.drop (i + 1)) hs ≤ 1000000 ∧
          (∀ x ∈ signsPs (ks.drop (i + 1)), x ∈ T.ks) ∧ (∀ x ∈ hs, x ∈ T.ks) ∧ hs.length + wdPs (ks.drop (i + 1)) ≤ 100000 ∧ TabAt H' t T' ∧ Chg T H H', rt := Q, ct := fun σ' H' => ∃ hs T' B' hd u, σ' = [some (.ref a), some (.ref t), some (.ref hd), u] ∧ H' hd = some (.lst (hs.map V.str)) ∧ hd ∉ T.as ∧ addRow (ks.drop (i + 1)) hs T' = addRow ks [] T ∧ T'.as = T.as ∧ T'.ks = T.ks ∧ Lens T' B' ∧ B' + costRow (ks.drop (i + 1)) hs ≤ 1000000 ∧
          (∀ x ∈ signsPs (ks.drop (i + 1)), x ∈ T.ks) ∧ (∀ x ∈ hs, x ∈ T.ks) ∧ hs.length + wdPs (ks.drop (i + 1)) ≤ 100000 ∧ TabAt H' t T' ∧ Chg T H H', bk := fun _ H' => Q .non H' } [some (V.ref a), some (V.ref t), some (V.ref hd'), some x] H5 := by
      intro hs' hd' H5 w5 c5 eh5 nh5 ehs
      refine ⟨.ref hd', rfl, ?_⟩
      refine rd_lst (by decide +kernel) (by decide +kernel) hcc A.lst rfl rk kd (by omega) (hlst c5) (hfr c5) _ fun b H6 s6 l6 nb eb => ?_
      have c16 : Chg T H H6 := c5.trans ⟨fun a o h _ => s6 a o h, l6⟩ rfl
      have l1 : hs'.length ≤ hs.length := by rw [ehs]; by_cases z : bareP k = true <;> simp [z]
      have l2 := lastsP_len k
      have l3 := signs_wd k
      refine .inr (.inr ⟨hd', b, _, _, rfl, rfl, s6 _ _ eh5, eb, by rw [List.length_map, List.length_map]; omega, fun d2 nd2 => ?_⟩)
      have s7 : Same H6 (upd H6 d2 (.lst (hs'.map V.str ++ (lastsP k).map V.str))) := fun x o e => by rw [upd_ne (ne_of_none e nd2)]; exact e
      have l7 : ∀ x, H6 x ≠ none → (upd H6 d2 (.lst (hs'.map V.str ++ (lastsP k).map V.str))) x ≠ none := fun x e => by
        by_cases c : x = d2
        · rw [c, upd_same]; exact fun z => nomatch z
        · rw [upd_ne c]; exact e
      have eho : headsOf hs k = hs' ++ lastsP k := by rw [ehs]; rfl
      refine ⟨headsOf hs k, layT (addT k T') hs (firstsP k), B' + costP k + hs.length * (firstsP k).length, d2, _, rfl, by rw [upd_same, eho, List.map_append], new (w5.mono s6) as2 nd2, e1, as2, ks2, (lens_P k ln').layT, by omega, fun x h => hks' x (by rw [signsPs]; exact List.mem_append_right _ h), fun x h => ?_, ?_, (w5.mono s6).mono s7, c16.trans ⟨fun a o h _ => s7 a o h, l7⟩ rfl⟩
      · rw [eho] at h
        rcases List.mem_append.mp h with h | h
        · rw [ehs] at h
          by_cases z : bareP k = true
          · rw [if_pos z] at h; exact hhs x h
          · rw [if_neg z] at h; cases h
        · exact hks' x (by rw [signsPs]; exact List.mem_append_left _ (lasts_sub k h))
      · rw [eho, List.length_append]
        omega
    refine rd_bl (by decide +kernel) (by decide +kernel) hcc A.bar rfl rk kd (by omega) (hlst c14) (hfr c14) _ fun H5 s5 l5 => ?_
    have c15 : Chg T H H5 := c14.trans ⟨fun a o h _ => s5 a o h, l5⟩ rfl
    refine ⟨bareP k, tru_rep (cl := cl) (d := .bl (bareP k)) rfl rfl, ?_⟩
    cases hb : bareP k with
    | true =>
      refine iteF ?_
      exact last hs hd H5 (w4.mono s5) c15 (s5 _ _ eh4) nh (by rw [hb]; rfl)
    | false =>
      refine iteT ?_
      refine ⟨Nat.zero_le _, fun h1 nh1 => ?_⟩
      have s6 : Same H5 (upd H5 h1 (.lst [])) := fun x o e => by rw [upd_ne (ne_of_none e nh1)]; exact e
      have l6 : ∀ x, H5 x ≠ none → (upd H5 h1 (.lst [])) x ≠ none := fun x e => by
        by_cases c : x = h1
        · rw [c, upd_same]; exact fun z => nomatch z
        · rw [upd_ne c]; exact e
      exact last [] h1 _ ((w4.mono s5).mono s6) (c15.trans ⟨fun a o h _ => s6 a o h, l6⟩ rfl) upd_same (new (w4.mono s5) as2 nh1) (by rw [hb]; rfl)
  · obtain ⟨hs, T', _, _, _, _, _, _, e1, _, _, _, _, _, _, _, w', c⟩ := pv
    rw [List.drop_eq_nil_of_le (by omega)] at e1
    have e1 : T' = addRow ks [] T := e1
    exact q H' (e1 ▸ w') c
end
end Dv
namespace Dv
open PySem PySem.Spec L2
/-! ### patterns as they are told -/
def tagP : Pat → Str
  | .none => "none" | .one _ => "one" | .row _ => "row" | .any _ => "any" | .maybe _ => "maybe" | .many _ => "many" | .some _ => "some"
mutual
def TP : Pat → D → Prop
  | .none, d => d.un = .tup [.str "none"]
  | .one s, d => d.un = .tup [.str "one", .str s]
  | .row ps, d => ∃ l ds, d.un = .tup [.str "row", l] ∧ l.un = .lst ds ∧ TPs ps ds
  | .any ps, d => ∃ l ds, d.un = .tup [.str "any", l] ∧ l.un = .lst ds ∧ TPs ps ds
  | .maybe p, d => ∃ l, d.un = .tup [.str "maybe", l] ∧ TP p l
  | .many p, d => ∃ l, d.un = .tup [.str "many", l] ∧ TP p l
  | .some p, d => ∃ l, d.un = .tup [.str "some", l] ∧ TP p l
def TPs : List Pat → List D → Prop
  | [], ds => ds = []
  | p :: ps, ds => ∃ d r, ds = d :: r ∧ TP p d ∧ TPs ps r
end
theorem TP.tag {p : Pat} {d : D} (h : TP p d) : ∃ r, d.un = .tup (.str (tagP p) :: r) := by
  cases p with
  | none => exact ⟨_, h⟩
  | one s => exact ⟨_, h⟩
  | row ps => obtain ⟨l, ds, h, _⟩ := h; exact ⟨_, h⟩
  | any ps => obtain ⟨l, ds, h, _⟩ := h; exact ⟨_, h⟩
  | maybe p => obtain ⟨l, h, _⟩ := h; exact ⟨_, h⟩
  | many p => obtain ⟨l, h, _⟩ := h; exact ⟨_, h⟩
  | some p => obtain ⟨l, h, _⟩ := h; exact ⟨_, h⟩
def tagN : Pat → Nat
  | .none => 0 | .one _ => 1 | .row _ => 2 | .any _ => 3 | .maybe _ => 4 | .many _ => 5 | .some _ => 6
def tags : List Str := ["none", "one", "row", "any", "maybe", "many", "some"]
theorem tag_at (p : Pat) : tags[tagN p]? = some (tagP p) := by cases p <;> rfl
theorem tags_nd : tags.Nodup := by decide +kernel
theorem tag_inj {p q : Pat} (h : tagP p = tagP q) : tagN p = tagN q := by
  have e1 := tag_at p
  have e2 := tag_at q
  rw [h] at e1
  have h1 := (List.getElem?_eq_some_iff.mp e1).1
  have h2 := (List.getElem?_eq_some_iff.mp e2).1
  refine (List.getElem?_inj h1 tags_nd).mp (e1.trans e2.symm)
mutual
theorem TP_inj : ∀ {p q : Pat} {d : D}, TP p d → TP q d → p = q
  | p, q, d, h1, h2 => by
    obtain ⟨r1, e1⟩ := h1.tag
    obtain ⟨r2, e2⟩ := h2.tag
    have tg : tagN p = tagN q := tag_inj (by rw [e1] at e2; injection e2 with e2; injection e2 with e2 _; injection e2)
    cases p with
    | none => cases q <;> first | rfl | (simp [tagN] at tg)
    | one s =>
      cases q <;> first | (simp [tagN] at tg; done) | skip
      rename_i s2
      have a : d.un = .tup [.str "one", .str s] := h1
      have b : d.un = .tup [.str "one", .str s2] := h2
      rw [a] at b
      cases b
      rfl
    | row ps =>
      cases q <;> first | (simp [tagN] at tg; done) | skip
      obtain ⟨l, ds, a, b, c⟩ := h1
      obtain ⟨l2, ds2, a2, b2, c2⟩ := h2
      rw [a] at a2
      cases a2
      rw [b] at b2
      cases b2
      rw [TPs_inj c c2]
    | any ps =>
      cases q <;> first | (simp [tagN] at tg; done) | skip
      obtain ⟨l, ds, a, b, c⟩ := h1
      obtain ⟨l2, ds2, a2, b2, c2⟩ := h2
      rw [a] at a2
      cases a2
      rw [b] at b2
      cases b2
      rw [TPs_inj c c2]
    | maybe p =>
      cases q <;> first | (simp [tagN] at tg; done) | skip
      obtain ⟨l, a, c⟩ := h1
      obtain ⟨l2, a2, c2⟩ := h2
      rw [a] at a2
      cases a2
      rw [TP_inj c c2]
    | many p =>
      cases q <;> first | (simp [tagN] at tg; done) | skip
      obtain ⟨l, a, c⟩ := h1
      obtain ⟨l2, a2, c2⟩ := h2
      rw [a] at a2
      cases a2
      rw [TP_inj c c2]
    | some p =>
      cases q <;> first | (simp [tagN] at tg; done) | skip
      obtain ⟨l, a, c⟩ := h1
      obtain ⟨l2, a2, c2⟩ := h2
      rw [a] at a2
      cases a2
      rw [TP_inj c c2]
theorem TPs_inj : ∀ {ps qs : List Pat} {ds : List D}, TPs ps ds → TPs qs ds → ps = qs
  | [], [], _, _, _ => rfl
  | [], q :: qs, ds, h1, h2 => by
    obtain ⟨d, r, e, _⟩ := h2
    rw [show ds = [] from h1] at e
    cases e
  | p :: ps, [], ds, h1, h2 => by
    obtain ⟨d, r, e, _⟩ := h1
    rw [show ds = [] from h2] at e
    cases e
  | p :: ps, q :: qs, ds, h1, h2 => by
    obtain ⟨d, r, rfl, a, b⟩ := h1
    obtain ⟨d2, r2, e, a2, b2⟩ := h2
    cases e
    rw [TP_inj a a2, TPs_inj b b2]
end
/-! ### nexts -/
theorem dummy26 : True := trivial
/-- what the table holds for each sign -/
def next0 (p : Pat) : Tab := addT p ((signsP p).map fun s => (s, 0, []))
def nextL (p : Pat) (s : Str) : List Str := ((next0 p).find? fun e => decide (e.1 = s)).elim [] fun e => e.2.2
def order (p : Pat) (l : List Str) : List Str := (signsP p).filter fun s => l.contains s
structure Good (n : Nat) (p : Pat) : Prop where
  dp : dpP p + 6 ≤ n
  nd : (signsP p).Nodup
  wd : wdP p ≤ 1000
  cost : costP p ≤ 1000000
theorem Good.len {n : Nat} {p : Pat} (g : Good n p) : (signsP p).length ≤ 1000 := Nat.le_trans (signs_wd p) g.wd
def resN (p : Pat) : D := .dct ((signsP p).map Sum.inr) ((signsP p).map fun s => .nw (.lst ((order p (nextL p s)).map D.str)))
open Classical in
noncomputable def nextsD (n : Nat) : Sem' := fun ds => if h : ∃ p d, ds = [d] ∧ TP p d ∧ Good n p then some (resN (Classical.choose h), true, []) else none
theorem nextsD_ok {n : Nat} {p : Pat} {d : D} (t : TP p d) (g : Good n p) : nextsD n [d] = some (resN p, true, []) := by
  have h : ∃ p d', [d] = [d'] ∧ TP p d' ∧ Good n p := ⟨p, d, rfl, t, g⟩
  unfold nextsD
  rw [dif_pos h]
  obtain ⟨d', e, t', _⟩ := Classical.choose_spec h
  cases e
  rw [TP_inj t' t]
theorem nextsD_some {n : Nat} {ds : List D} {r : D × Bool × List D} (h : nextsD n ds = some r) : ∃ p d, ds = [d] ∧ TP p d ∧ Good n p ∧ r = (resN p, true, []) := by
  unfold nextsD at h
  by_cases c : ∃ p d, ds = [d] ∧ TP p d ∧ Good n p
  · rw [dif_pos c] at h
    cases h
    obtain ⟨d, e, t, g⟩ := Classical.choose_spec c
    exact ⟨_, d, e, t, g, rfl⟩
  · rw [dif_neg c] at h
    cases h
/-! the addresses make no difference to what is told -/
def simT (T U : Tab) : Prop := T.map (fun e => (e.1, e.2.2)) = U.map fun e => (e.1, e.2.2)
theorem sim_add {T U : Tab} (h : simT T U) (a x : Str) : simT (addOne T a x) (addOne U a x) := by
  have key : ∀ V : Tab, (addOne V a x).map (fun e => (e.1, e.2.2)) = (V.map fun e => (e.1, e.2.2)).map fun e => if e.1 = a then (e.1, if x ∈ e.2 then e.2 else e.2 ++ [x]) else e := fun V => by
    unfold addOne
    rw [List.map_map, List.map_map]
    refine List.map_congr_left fun e _ => ?_
    show ((if e.1 = a then _ else e).1, (if e.1 = a then _ else e).2.2) = if e.1 = a then _ else _
    by_cases c : e.1 = a
    · rw [if_pos c, if_pos c]
    · rw [if_neg c, if_neg c]
  unfold simT
  rw [key, key, h]
theorem sim_layH {a : Str} : ∀ (ts : List Str) {T U : Tab}, simT T U → simT (layH T a ts) (layH U a ts)
  | [], _, _, h => h
  | x :: ts, _, _, h => sim_layH ts (sim_add h a x)
theorem sim_layT {ts : List Str} : ∀ (hs : List Str) {T U : Tab}, simT T U → simT (layT T hs ts) (layT U hs ts)
  | [], _, _, h => h
  | x :: hs, _, _, h => sim_layT hs (sim_layH ts h)
mutual
theorem sim_P : ∀ (p : Pat) {T U : Tab}, simT T U → simT (addT p T) (addT p U)
  | .none, _, _, h => h
  | .one _, _, _, h => h
  | .row ps, _, _, h => sim_Row ps [] h
  | .any ps, _, _, h => sim_Any ps h
  | .maybe p, _, _, h => sim_P p h
  | .some p, _, _, h => sim_layT _ (sim_P p h)
  | .many p, _, _, h => sim_layT _ (sim_P p h)
theorem sim_Row : ∀ (ps : List Pat) (hs : List Str) {T U : Tab}, simT T U → simT (addRow ps hs T) (addRow ps hs U)
  | [], _, _, _, h => h
  | p :: ps, hs, _, _, h => sim_Row ps _ (sim_layT hs (sim_P p h))
theorem sim_Any : ∀ (ps : List Pat) {T U : Tab}, simT T U → simT (addAny ps T) (addAny ps U)
  | [], _, _, h => h
  | p :: ps, _, _, h => sim_Any ps (sim_P p h)
end
theorem sim_find : ∀ {T U : Tab}, simT T U → ∀ (s : Str) (e : Str × Addr × List Str), e ∈ T → T.ks.Nodup → e.1 = s → (U.find? fun e => decide (e.1 = s)).elim [] (fun e => e.2.2) = e.2.2
  | [], _, _, _, _, h, _, _ => by cases h
  | d :: T, [], h, _, _, _, _, _ => by unfold simT at h; simp at h
  | d :: T, u :: U, h, s, e, he, nd, es => by
    unfold simT at h
    rw [List.map_cons, List.map_cons] at h
    injection h with h1 h2
    injection h1 with h3 h4
    obtain ⟨n1, n2⟩ := List.nodup_cons.mp nd
    rw [List.find?_cons]
    by_cases c : u.1 = s
    · rw [show decide (u.1 = s) = true from decide_eq_true c]
      rcases List.mem_cons.mp he with z | z
      · subst z; exact h4.symm
      · exact absurd (List.mem_map.mpr ⟨e, z, es.trans (c.symm.trans h3.symm)⟩) n1
    · rw [show decide (u.1 = s) = false from decide_eq_false c]
      rcases List.mem_cons.mp he with z | z
      · subst z; exact absurd (h3.symm.trans es) c
      · exact sim_find (T := T) (U := U) h2 s e z n2 es
end Dv
namespace Dv
open PySem PySem.Spec L2
/-! ### nexts by hand -/
abbrev bNexts (tA : List (Nat × Nat)) (fS fO fI : Nat) : S := .seq (.set 1 .dnew) (.seq (.for_ (.itL (.call fS (.cons (.var 0) .nil))) [2] (.setI (.var 1) (.var 2) (.lst .nil)))
  (.seq (.ex (.meth "add_nexts" tA (.call fO (.cons (.var 0) .nil)) (.cons (.var 1) .nil))) (.seq (.set 3 .dnew)
  (.seq (.for_ (.itL (.call fS (.cons (.var 0) .nil))) [2] (.setI (.var 3) (.var 2) (.call fI (.cons (.var 0) (.cons (.idx (.var 1) (.var 2)) .nil))))) (.ret (.var 3))))))
structure NxEnv (c0 : Ct0) (Φ : Pm) (n : Nat) (tA : List (Nat × Nat)) (fS fO fI : Nat) : Prop where
  cc : Φ.cc = c0.c
  add : ∀ p : Pat, ∃ f cs, (clsP p, f) ∈ tA ∧ clsP p ∈ cs ∧ Φ.sp f = spAdd c0 cs n
  sgn : ∃ sg φ, SpLe (spOf c0 sg φ) (Φ.sp fS) ∧ sg.io = [false] ∧ ∀ p d, TP p d → Good n p → φ [d] = some (.lst ((signsP p).map D.str), true, [])
  obj : ∃ sg φ, SpLe (spOf c0 sg φ) (Φ.sp fO) ∧ sg.io = [false] ∧ ∀ p d, TP p d → Good n p → φ [d] = some (oP p, true, [])
  ord : ∃ sg φ, SpLe (spOf c0 sg φ) (Φ.sp fI) ∧ sg.io = [false, false] ∧ ∀ p d l e, TP p d → Good n p → D.un e = .lst (List.map D.str l) → φ [d, e] = some (.lst ((order p l).map D.str), true, [])
theorem reps_of_strs {cl : Ct} {M : Hp} : ∀ l : List Str, Reps cl M (l.map D.str) (l.map V.str)
  | [] => Reps.nil
  | x :: l => Reps.cons (d := .str x) rfl (reps_of_strs l)
theorem tab_put {H : Hp} {t a : Addr} {T : Tab} {s : Str} {xs : List Str} (w : TabAt H t T) (hs : s ∉ T.ks) (ha : H a = some (.lst (xs.map V.str))) (na : a ∉ T.as) :
    TabAt (upd H t (.dK (putK (T.map fun e => ((Sum.inr e.1 : Key), V.ref e.2.1)) (Sum.inr s) (.ref a)))) t (T ++ [(s, a, xs)]) := by
  have nt : a ≠ t := fun z => by rw [z, w.dc] at ha; cases ha
  have pk : putK (T.map fun e => ((Sum.inr e.1 : Key), V.ref e.2.1)) (Sum.inr s) (.ref a) = (T ++ [(s, a, xs)]).map fun e => ((Sum.inr e.1 : Key), V.ref e.2.1) := by
    unfold putK
    rw [if_neg]
    · rw [List.map_append]; rfl
    · intro z
      obtain ⟨x, hx, e⟩ := List.any_eq_true.mp z
      obtain ⟨e', he', rfl⟩ := List.mem_map.mp hx
      exact hs (List.mem_map.mpr ⟨e', he', Sum.inr.inj (of_decide_eq_true e)⟩)
  refine ⟨by rw [upd_same, pk], fun e he => ?_, ?_, ?_⟩
  · have ne : e.2.1 ≠ t := by
      rcases List.mem_append.mp he with z | z
      · exact fun q => by have := w.ls e z; rw [q, w.dc] at this; cases this
      · rw [List.mem_singleton.mp z]; exact nt
    rw [upd_ne ne]
    rcases List.mem_append.mp he with z | z
    · exact w.ls e z
    · rw [List.mem_singleton.mp z]; exact ha
  · show (List.map _ (T ++ _)).Nodup
    rw [List.map_append]
    refine List.nodup_append.mpr ⟨w.nd, by simp, fun x hx y hy e => ?_⟩
    cases List.mem_singleton.mp hy
    exact na (by rw [show x = a from e] at hx; exact hx)
  · show (List.map _ (T ++ _)).Nodup
    rw [List.map_append]
    refine List.nodup_append.mpr ⟨w.nk, by simp, fun x hx y hy e => ?_⟩
    cases List.mem_singleton.mp hy
    exact hs (by rw [show x = s from e] at hx; exact hx)
section
variable {cl : Ct} {M H : Hp} {Φ : Pm} {σ : St}
theorem same_of_fr {sg : Sig} {vs : List V} {M M' H H' : Hp} (fr : Fr (inA sg.io vs) M H M' H') (io : sg.io.all (fun b => !b) = true) : Same H H' := fun a o e => fr.keep a o e fun z => by
  unfold inA at z
  rw [ioVals_none io] at z
  cases z
theorem rd_call {sg : Sig} {φ : Sem'} {f i : Nat} {d r : D} {v : V} (le : SpLe (spOf cl.toCt0 sg φ) (Φ.sp f)) (io : sg.io = [false]) (e : φ [d] = some (r, true, [])) (hs : σ[i]? = some (some v)) (rd : Rep cl M d v) (sm : Same M H) (hf : ∀ a, H a = none → cl.N a) (Q : VK)
    (k : ∀ a o M' H', Same H H' → Same M M' → Same M' H' → (∀ a, M a = none → M' a ≠ none → H a = none) → H a = none → M' a = none → H' a = some o → Top cl M' r o → Q (.ref a) H') : tCall (Φ.sp f) [] Φ.xk (tCons (tVar i) tNil) σ H Q := by
  refine ⟨v, hs, ?_⟩
  show Φ.sp f [v] H Q Φ.xk
  refine le _ _ _ _ ⟨cl, M, [d], rfl, hf, sm, by rw [io]; exact ⟨rd, trivial⟩, by rw [io]; exact List.nodup_nil, _, _, _, e, fun u M' H' fr s' _ ro => ?_⟩
  obtain ⟨b, o, rfl, mb, hb, tp, nb⟩ := ro
  have sm' := same_of_fr fr (by rw [io]; rfl)
  refine k b o M' H' sm' fr.subM s' (fun a h h' => (fr.new a h h').elim id fun z => ?_) nb mb hb tp
  unfold inA at z
  rw [io] at z
  cases z
end
section
variable {c0 : Ct0} {Φ : Pm} {n : Nat} {tA : List (Nat × Nat)} {fS fO fI : Nat} {vs : List V} {H : Hp} {Q : VK} {E : XK} {N : List Str} {sg : Sig}
theorem nexts_body (A : NxEnv c0 Φ n tA fS fO fI) (hio : sg.io = [false]) (hN : N.length = 4) (h : spOf c0 sg (nextsD n) vs H Q E) :
    trS c0.K Φ (bNexts tA fS fO fI) { nx := fun _ H' => Q .non H', rt := Q } (L2.start N vs) H := by
  obtain ⟨cl, M, ds, rfl, hf, sm, ao, _, d, b, xs, e, q⟩ := h
  obtain ⟨p, dp, rfl, tp, g, er⟩ := nextsD_some e
  cases er
  rw [hio] at ao q
  obtain ⟨v, rfl, rv⟩ : ∃ v, vs = [v] ∧ Rep cl M dp v := by
    match vs, ao with
    | [v], ao => exact ⟨v, rfl, ao.1⟩
  have st : L2.start N [v] = [some v, none, none, none] := by
    match N, hN with
    | [_, _, _, _], _ => rfl
  rw [st]
  have sz : 2000000 ≤ sizeLine := by decide
  have hcc := A.cc
  obtain ⟨sgS, φS, leS, ioS, phS⟩ := A.sgn
  obtain ⟨sgO, φO, leO, ioO, phO⟩ := A.obj
  obtain ⟨sgI, φI, leI, ioI, phI⟩ := A.ord
  have eS := phS p dp tp g
  have eO := phO p dp tp g
  have up : ∀ {H1 : Hp} {x : Addr} {o : HO}, H1 x = none → Same H1 (upd H1 x o) := fun h a o e => by rw [upd_ne (ne_of_none e h)]; exact e
  have hfr : ∀ {H' : Hp}, Same H H' → ∀ a, H' a = none → cl.N a := fun s a h => hf a (s.free h)
  show (tSeq (tAsg tDNewK (gName 1)) _) _ _ H
  intro t ht
  -- the signs
  have s0 := up (o := .dK []) ht
  refine rd_call (M := M) leS ioS eS rfl rv (sm.trans s0) (hfr s0) _ fun a1 o1 M1 H1 s1 _ _ _ na1 _ ha1 tp1 => ?_
  obtain ⟨us1, rfl, ru1⟩ := tp1
  rw [reps_strs ru1] at ha1
  have s01 := s0.trans s1
  have ht1 : H1 t = some (.dK []) := s1 _ _ upd_same
  refine ⟨a1, rfl, ⟨_, SqL.of ha1⟩, ?_⟩
  refine for_list (xs := (signsP p).map V.str) (fun i σ' H' => (∃ u, σ' = [some v, some (.ref t), u, none]) ∧ ∃ T : Tab, T.ks = (signsP p).take i ∧ (∀ e ∈ T, e.2.2 = []) ∧ (∀ a ∈ T.as, H a = none) ∧ TabAt H' t T ∧ Same H H' ∧ H' a1 = some (.lst ((signsP p).map V.str)))
    ⟨⟨none, rfl⟩, [], by simp, (fun e h => by cases h), (fun e h => by cases h), ⟨ht1, fun e h => (by cases h), List.nodup_nil, List.nodup_nil⟩, s01, ha1⟩ (fun i σ' H' _ pv => by
      obtain ⟨_, _, _, _, _, _, _, c⟩ := pv
      exact SqL.of c) ?_ (fun σ' H' pv => ?_)
  · rintro i x σ' H' hx ⟨⟨u, rfl⟩, T, k1, k2, k3, w, s', ha'⟩
    obtain ⟨s, es, rfl⟩ := str_at hx
    have tk : (signsP p).take (i + 1) = (signsP p).take i ++ [s] := by rw [List.take_add_one, es]; rfl
    have hl := g.len
    have hi := (List.getElem?_eq_some_iff.mp es).1
    have sn : s ∉ T.ks := by
      rw [k1]
      have nd := g.nd
      rw [← List.take_append_drop (i + 1) (signsP p), tk] at nd
      have := (List.nodup_append.mp (List.nodup_append.mp nd).1).2.2
      exact fun z => this s z s (List.mem_singleton.mpr rfl) rfl
    show (tAsg (tLst tNil) (gSub (tVar 1) (tVar 2) rSetA)) _ [some v, some (.ref t), some (.str s), none] H'
    refine ⟨Nat.zero_le _, fun l hl' => ?_⟩
    have sl := up (o := .lst []) hl'
    have w' := w.mono sl
    have nt : l ≠ t := fun z => by rw [z, w.dc] at hl'; cases hl'
    have nl : l ∉ T.as := fun z => by
      obtain ⟨e, he, rfl⟩ := List.mem_map.mp z
      rw [w.ls e he] at hl'
      cases hl'
    have wp := tab_put (s := s) (xs := []) w' sn upd_same nl
    have tl : T.length ≤ 1000 := by
      have : T.ks.length = ((signsP p).take i).length := by rw [k1]
      rw [List.length_map, List.length_take] at this
      omega
    refine ⟨.ref t, rfl, .str s, rfl, .inr ⟨t, _, rfl, DPut.k (k := Sum.inr s) w'.dc (by rw [List.length_map]; omega), ?_⟩⟩
    refine ⟨⟨_, rfl⟩, T ++ [(s, l, [])], ?_, fun e he => ?_, fun a ha => ?_, wp, fun b o hb => ?_, ?_⟩
    · show List.map _ _ = _
      rw [List.map_append, tk, ← k1]
      rfl
    · rcases List.mem_append.mp he with z | z
      · exact k2 e z
      · rw [List.mem_singleton.mp z]
    · obtain ⟨e, he, rfl⟩ := List.mem_map.mp ha
      rcases List.mem_append.mp he with z | z
      · exact k3 _ (List.mem_map.mpr ⟨e, z, rfl⟩)
      · rw [List.mem_singleton.mp z]; exact s'.free hl'
    · have n1 : b ≠ t := ne_of_none hb ht
      rw [upd_ne n1]
      exact sl _ _ (s' _ _ hb)
    · have n1 : a1 ≠ t := fun z => by rw [z, w.dc] at ha'; cases ha'
      rw [upd_ne n1]
      exact sl _ _ ha'
  obtain ⟨⟨u, rfl⟩, T, k1, k2, k3, w, s', _⟩ := pv
  rw [List.length_map, List.take_length] at k1
  -- add_nexts
  refine rd_call (M := M) leO ioO eO rfl rv (sm.trans s') (hfr s') _ fun b ob M2 H2 s2 sM2 sMH2 nw2 nb mb hb tb => ?_
  have s'2 := s'.trans s2
  have w2 := w.mono s2
  have rb : Rep cl (upd M2 b ob) (oP p) (.ref b) := Rep.of_top upd_same (tb.mono (upd_same_sub mb))
  have nT : ∀ a ∈ T.as, upd M2 b ob a = none := fun a ha => by
    obtain ⟨e, he, rfl⟩ := List.mem_map.mp ha
    have h1 := w.ls e he
    rw [upd_ne fun z => by rw [z, nb] at h1; cases h1]
    cases z : M2 e.2.1 with
    | none => rfl
    | some o =>
      have m0 : M e.2.1 = none := sm.free (k3 _ ha)
      have := nw2 _ m0 (by rw [z]; exact fun z => nomatch z)
      rw [this] at h1
      cases h1
  refine rd_add' (n := n) (T := T) (B := 0) hcc A.add rfl rb (by have := g.dp; omega) (upd_sub sMH2 hb) (hfr s'2) nT w2 (by rw [k1]; exact fun x h => h) (fun e he => by rw [k2 e he]; exact Nat.le_refl _) (by have := g.cost; omega) (by have := g.wd; omega) _ fun H3 w3 c3 => ?_
  have s'3 : Same H H3 := fun x o e => c3.keep x o (s'2 _ _ e) fun z => by rw [k3 x z] at e; cases e
  have as3 := (add_asP p T).1
  have ks3 := (add_asP p T).2.trans k1
  have sim : simT (addT p T) (next0 p) := sim_P p (by
    unfold simT
    rw [List.map_map]
    have : ∀ (l : List Str) (T : Tab), T.ks = l → (∀ e ∈ T, e.2.2 = []) → T.map (fun e => (e.1, e.2.2)) = l.map fun s => (s, []) := by
      intro l T
      induction T generalizing l with
      | nil => intro h _; cases h; rfl
      | cons e T ih =>
        intro h h2
        subst h
        rw [List.map_cons, ih _ rfl fun e he => h2 e (List.mem_cons_of_mem _ he), h2 e List.mem_cons_self]
        rfl
    exact this _ T k1 k2)
  -- found = {}
  show (tSeq (tAsg tDNewK (gName 3)) _) _ _ H3
  intro f hf3
  have s4 := up (o := .dK []) hf3
  have w4 := w3.mono s4
  have s'4 := s'3.trans s4
  refine rd_call (M := M) leS ioS eS rfl rv (sm.trans s'4) (hfr s'4) _ fun a5 o5 M5 H5 s5 _ _ _ na5 _ ha5 tp5 => ?_
  obtain ⟨us5, rfl, ru5⟩ := tp5
  rw [reps_strs ru5] at ha5
  have s'5 := s'4.trans s5
  have w5 := w4.mono s5
  have hf5 : H5 f = some (.dK []) := s5 _ _ upd_same
  have nf : H f = none := s'3.free hf3
  have nft : f ≠ t := fun z => by rw [z, w3.dc] at hf3; cases hf3
  have nfT : f ∉ (addT p T).as := fun z => by
    obtain ⟨e, he, rfl⟩ := List.mem_map.mp z
    rw [w3.ls e he] at hf3
    cases hf3
  refine ⟨a5, rfl, ⟨_, SqL.of ha5⟩, ?_⟩
  refine for_list (xs := (signsP p).map V.str) (fun i σ' H' => (∃ u, σ' = [some v, some (.ref t), u, some (.ref f)]) ∧ ∃ F : Tab, F.ks = (signsP p).take i ∧ (∀ e ∈ F, e.2.2 = order p (nextL p e.1)) ∧ (∀ a ∈ F.as, H a = none) ∧ TabAt H' f F ∧ TabAt H' t (addT p T) ∧ Same H H' ∧ H' a5 = some (.lst ((signsP p).map V.str)))
    ⟨⟨_, rfl⟩, [], by simp, (fun e h => by cases h), (fun e h => by cases h), ⟨hf5, fun e h => (by cases h), List.nodup_nil, List.nodup_nil⟩, w5, s'5, ha5⟩ (fun i σ' H' _ pv => by
      obtain ⟨_, _, _, _, _, _, _, _, c⟩ := pv
      exact SqL.of c) ?_ (fun σ' H' pv => ?_)
  · rintro i x σ' H' hx ⟨⟨u, rfl⟩, F, k1', k2', k3', wf, wt, s6, ha'⟩
    obtain ⟨s, es, rfl⟩ := str_at hx
    have tk : (signsP p).take (i + 1) = (signsP p).take i ++ [s] := by rw [List.take_add_one, es]; rfl
    have hl := g.len
    have hi := (List.getElem?_eq_some_iff.mp es).1
    have sn : s ∉ F.ks := by
      rw [k1']
      have nd := g.nd
      rw [← List.take_append_drop (i + 1) (signsP p), tk] at nd
      have := (List.nodup_append.mp (List.nodup_append.mp nd).1).2.2
      exact fun z => this s z s (List.mem_singleton.mpr rfl) rfl
    show (tAsg (tCall (Φ.sp fI) [] Φ.xk (tCons (tVar 0) (tCons (tOp (rIdx cl.K) (tVar 1) (tVar 2)) tNil))) (gSub (tVar 3) (tVar 2) rSetA)) _ [some v, some (.ref t), some (.str s), some (.ref f)] H'
    obtain ⟨e, he, ek, ev, _⟩ := Tab.find wt.nk (h := s) (by rw [ks3]; exact List.mem_of_getElem? es)
    have el := wt.ls e he
    have en : nextL p s = e.2.2 := sim_find sim s e he wt.nk ek
    refine ⟨v, rfl, .ref t, rfl, .str s, rfl, .inr ⟨t, .ref e.2.1, rfl, by have := DGet.k (k := Sum.inr s) wt.dc; rw [ev] at this; exact this, ?_⟩⟩
    show Φ.sp fI [v, .ref e.2.1] H' _ Φ.xk
    refine leI _ _ _ _ ⟨cl, H', [dp, .lst (e.2.2.map D.str)], rfl, hfr s6, Same.refl _, by rw [ioI]; exact ⟨rv.mono (sm.trans s6), ⟨e.2.1, _, rfl, el, reps_of_strs _⟩, trivial⟩, by rw [ioI]; exact List.nodup_nil, _, _, _, phI p dp e.2.2 _ tp g rfl, fun r M7 H7 fr7 sm7 _ ro => ?_⟩
    obtain ⟨l, o7, rfl, _, hl7, ⟨us7, rfl, ru7⟩, nl7⟩ := ro
    rw [reps_strs ru7, ← en] at hl7
    have s7 := same_of_fr fr7 (by rw [ioI]; rfl)
    have wf7 := wf.mono s7
    have wt7 := wt.mono s7
    have nl : l ∉ F.as := fun z => by
      obtain ⟨e', he', rfl⟩ := List.mem_map.mp z
      rw [wf.ls e' he'] at nl7
      cases nl7
    have wp := tab_put (s := s) wf7 sn hl7 nl
    have fl : F.length ≤ 1000 := by
      have : F.ks.length = ((signsP p).take i).length := by rw [k1']
      rw [List.length_map, List.length_take] at this
      omega
    refine ⟨.ref f, rfl, .str s, rfl, .inr ⟨f, _, rfl, DPut.k (k := Sum.inr s) wf7.dc (by rw [List.length_map]; omega), ?_⟩⟩
    have keep : ∀ {x o}, H7 x = some o → x ≠ f → upd H7 f (.dK (putK (F.map fun e => ((Sum.inr e.1 : Key), V.ref e.2.1)) (Sum.inr s) (.ref l))) x = some o := fun h n => by rw [upd_ne n]; exact h
    refine ⟨⟨_, rfl⟩, F ++ [(s, l, order p (nextL p s))], ?_, fun e' he' => ?_, fun a ha => ?_, wp, ⟨keep wt7.dc (Ne.symm nft), fun e' he' => keep (wt7.ls e' he') fun z => nfT (List.mem_map.mpr ⟨e', he', z⟩), wt7.nd, wt7.nk⟩, fun b o hb => keep (s7 _ _ (s6 _ _ hb)) (ne_of_none hb nf), keep (s7 _ _ ha') fun z => by rw [z, wf.dc] at ha'; cases ha'⟩
    · show List.map _ _ = _
      rw [List.map_append, tk, ← k1']
      rfl
    · rcases List.mem_append.mp he' with z | z
      · exact k2' e' z
      · rw [List.mem_singleton.mp z]
    · obtain ⟨e', he', rfl⟩ := List.mem_map.mp ha
      rcases List.mem_append.mp he' with z | z
      · exact k3' _ (List.mem_map.mpr ⟨e', z, rfl⟩)
      · rw [List.mem_singleton.mp z]; exact s6.free nl7
  obtain ⟨⟨u5, rfl⟩, F, k1', k2', k3', wf, wt, s6, _⟩ := pv
  rw [List.length_map, List.take_length] at k1'
  -- return found
  refine ⟨.ref f, rfl, ?_⟩
  let M' : Hp := fun a => if a ∈ F.as then H' a else M a
  have inF : ∀ {a}, a ∈ F.as → M' a = H' a := fun h => if_pos h
  have outF : ∀ {a}, a ∉ F.as → M' a = M a := fun h => if_neg h
  have sM : Same M M' := fun a o e => by
    have : a ∉ F.as := fun z => by
      have := k3' a z
      rw [sm _ _ e] at this
      cases this
    rw [outF this]
    exact e
  have nff : f ∉ F.as := fun z => by
    obtain ⟨e, he, q⟩ := List.mem_map.mp z
    have := wf.ls e he
    rw [q, wf.dc] at this
    cases this
  refine q (.ref f) M' H' ⟨fun a o e _ => s6 _ _ e, fun a h => ?_, sM, fun a h h' => ?_⟩ (fun a o e => ?_) trivial ⟨f, _, rfl, ?_, wf.dc, ⟨_, rfl, ?_, ?_⟩, nf⟩
  · cases z : H a with
    | none => exact absurd z h
    | some o => rw [s6 _ _ z]; exact fun z => nomatch z
  · by_cases c : a ∈ F.as
    · exact .inl (k3' a c)
    · rw [outF c] at h'; exact absurd h h'
  · by_cases c : a ∈ F.as
    · rw [inF c] at e; exact e
    · rw [outF c] at e; exact s6 _ _ (sm _ _ e)
  · rw [outF nff]; exact sm.free nf
  · rw [List.map_map, ← k1']
    show _ = List.map _ (List.map _ _)
    rw [List.map_map]
    rfl
  · rw [List.map_map]
    have main : ∀ G : Tab, (∀ e ∈ G, e ∈ F) → Reps cl M' (G.ks.map fun s => D.nw (.lst ((order p (nextL p s)).map D.str))) (G.map ((fun x => x.2) ∘ fun e => ((Sum.inr e.1 : Key), V.ref e.2.1))) := by
      intro G
      induction G with
      | nil => intro _; exact Reps.nil
      | cons e G ih =>
        intro hG
        have he := hG e List.mem_cons_self
        have ma : e.2.1 ∈ F.as := List.mem_map.mpr ⟨e, he, rfl⟩
        refine Reps.cons ⟨⟨e.2.1, _, rfl, (inF ma).trans (wf.ls e he), ?_⟩, e.2.1, rfl, hf _ (k3' _ ma)⟩ (ih fun e' he' => hG e' (List.mem_cons_of_mem _ he'))
        rw [k2' e he]
        exact reps_of_strs _
    have := main F fun e h => h
    rw [k1'] at this
    exact this
end
end Dv
namespace Dv.Q
open PySem PySem.Spec L2
/-! ### the sorts' names compared -/
@[simp] theorem n_none_one : ¬ (("none" : Str) = "one") := by decide +kernel
@[simp] theorem n_none_row : ¬ (("none" : Str) = "row") := by decide +kernel
@[simp] theorem n_none_any : ¬ (("none" : Str) = "any") := by decide +kernel
@[simp] theorem n_none_maybe : ¬ (("none" : Str) = "maybe") := by decide +kernel
@[simp] theorem n_none_many : ¬ (("none" : Str) = "many") := by decide +kernel
@[simp] theorem n_none_some : ¬ (("none" : Str) = "some") := by decide +kernel
@[simp] theorem n_one_none : ¬ (("one" : Str) = "none") := by decide +kernel
@[simp] theorem n_one_row : ¬ (("one" : Str) = "row") := by decide +kernel
@[simp] theorem n_one_any : ¬ (("one" : Str) = "any") := by decide +kernel
@[simp] theorem n_one_maybe : ¬ (("one" : Str) = "maybe") := by decide +kernel
@[simp] theorem n_one_many : ¬ (("one" : Str) = "many") := by decide +kernel
@[simp] theorem n_one_some : ¬ (("one" : Str) = "some") := by decide +kernel
@[simp] theorem n_row_none : ¬ (("row" : Str) = "none") := by decide +kernel
@[simp] theorem n_row_one : ¬ (("row" : Str) = "one") := by decide +kernel
@[simp] theorem n_row_any : ¬ (("row" : Str) = "any") := by decide +kernel
@[simp] theorem n_row_maybe : ¬ (("row" : Str) = "maybe") := by decide +kernel
@[simp] theorem n_row_many : ¬ (("row" : Str) = "many") := by decide +kernel
@[simp] theorem n_row_some : ¬ (("row" : Str) = "some") := by decide +kernel
@[simp] theorem n_any_none : ¬ (("any" : Str) = "none") := by decide +kernel
@[simp] theorem n_any_one : ¬ (("any" : Str) = "one") := by decide +kernel
@[simp] theorem n_any_row : ¬ (("any" : Str) = "row") := by decide +kernel
@[simp] theorem n_any_maybe : ¬ (("any" : Str) = "maybe") := by decide +kernel
@[simp] theorem n_any_many : ¬ (("any" : Str) = "many") := by decide +kernel
@[simp] theorem n_any_some : ¬ (("any" : Str) = "some") := by decide +kernel
@[simp] theorem n_maybe_none : ¬ (("maybe" : Str) = "none") := by decide +kernel
@[simp] theorem n_maybe_one : ¬ (("maybe" : Str) = "one") := by decide +kernel
@[simp] theorem n_maybe_row : ¬ (("maybe" : Str) = "row") := by decide +kernel
@[simp] theorem n_maybe_any : ¬ (("maybe" : Str) = "any") := by decide +kernel
@[simp] theorem n_maybe_many : ¬ (("maybe" : Str) = "many") := by decide +kernel
@[simp] theorem n_maybe_some : ¬ (("maybe" : Str) = "some") := by decide +kernel
@[simp] theorem n_many_none : ¬ (("many" : Str) = "none") := by decide +kernel
@[simp] theorem n_many_one : ¬ (("many" : Str) = "one") := by decide +kernel
@[simp] theorem n_many_row : ¬ (("many" : Str) = "row") := by decide +kernel
@[simp] theorem n_many_any : ¬ (("many" : Str) = "any") := by decide +kernel
@[simp] theorem n_many_maybe : ¬ (("many" : Str) = "maybe") := by decide +kernel
@[simp] theorem n_many_some : ¬ (("many" : Str) = "some") := by decide +kernel
@[simp] theorem n_some_none : ¬ (("some" : Str) = "none") := by decide +kernel
@[simp] theorem n_some_one : ¬ (("some" : Str) = "one") := by decide +kernel
@[simp] theorem n_some_row : ¬ (("some" : Str) = "row") := by decide +kernel
@[simp] theorem n_some_any : ¬ (("some" : Str) = "any") := by decide +kernel
@[simp] theorem n_some_maybe : ¬ (("some" : Str) = "maybe") := by decide +kernel
@[simp] theorem n_some_many : ¬ (("some" : Str) = "many") := by decide +kernel
end Dv.Q
namespace Dv
open PySem PySem.Spec L2
/-! ### data compared -/
theorem eq_same' {x y : D} {p : PyData} (h1 : x.toP = some p) (h2 : y.toP = some p) (hx : x.fl = none) (hl : p.canLay0 = true) (hd : p.depth ≤ 200) : eqD x y = some true := by
  have e : eqP x y = some true := by
    unfold eqP
    rw [h1, h2]
    show (if (PyData.canLay0 p && PyData.canLay0 p && decide (p.depth ≤ 200)) = true then some (PyData.eqv p p) else none) = _
    rw [if_pos (by simp [hl, hd]), SeqAt.eqv_refl p hl]
  unfold eqD
  rw [hx]
  exact e
theorem toP_un (d : D) : d.un.toP = d.toP := by
  induction d using D.un.induct with
  | case1 d ih => exact ih
  | case2 d hn => cases d <;> first | rfl | exact absurd rfl (hn _)
theorem toPs_cons (d : D) (ds : List D) : toPs (d :: ds) = (D.toP d).bind fun p => (toPs ds).map (p :: ·) := rfl
theorem toP_lst (ds : List D) : D.toP (.lst ds) = (toPs ds).map .list := rfl
theorem toP_tup (ds : List D) : D.toP (.tup ds) = (toPs ds).map .tuple := rfl
theorem toPs_len : ∀ {ds : List D} {ps : List PyData}, toPs ds = some ps → ps.length = ds.length
  | [], ps, h => by cases h; rfl
  | d :: ds, ps, h => by
    rw [toPs_cons] at h
    cases e : D.toP d with
    | none => rw [e] at h; cases h
    | some p =>
      rw [e] at h
      cases e2 : toPs ds with
      | none => rw [e2] at h; cases h
      | some qs =>
        rw [e2] at h
        cases h
        simp [toPs_len e2]
/-- xs == [] -/
theorem eq_nil' {ds : List D} {ps : List PyData} (h : toPs ds = some ps) (hl : PyData.canLayAll0 ps = true) (hd : PyData.depthAll ps ≤ 199) : eqD (.lst ds) (.lst []) = some (decide (ds = [])) := by
  show eqP _ _ = _
  unfold eqP
  have e1 : D.toP (.lst ds) = some (.list ps) := by rw [toP_lst, h]; rfl
  have e2 : D.toP (.lst []) = some (.list []) := rfl
  rw [e1, e2]
  have l1 : PyData.canLay0 (.list ps) = true := by simpa [PyData.canLay0] using hl
  have l2 : PyData.canLay0 (.list []) = true := by simp [PyData.canLay0, PyData.canLayAll0]
  have d2 : PyData.depth (.list ps) ≤ 200 := by simp only [PyData.depth]; omega
  show (if (PyData.canLay0 (.list ps) && PyData.canLay0 (.list []) && decide (PyData.depth (.list ps) ≤ 200)) = true then some (PyData.eqv (.list ps) (.list [])) else none) = _
  rw [if_pos (by simp [l1, l2, d2])]
  have ln := toPs_len h
  cases ps with
  | nil =>
    cases ds with
    | nil => simp [PyData.eqv, PyData.eqvAll]
    | cons d ds => simp at ln
  | cons x xs =>
    cases ds with
    | nil => simp at ln
    | cons d ds => simp [PyData.eqv, PyData.eqvAll]
theorem toPs_strs : ∀ l : List Str, toPs (l.map D.str) = some (l.map PyData.str)
  | [] => rfl
  | x :: l => by rw [List.map_cons, toPs_cons, toPs_strs l]; rfl
theorem lay_strs : ∀ l : List Str, (∀ s ∈ l, PyData.strOk s = true) → PyData.canLayAll0 (l.map PyData.str) = true
  | [], _ => by simp [PyData.canLayAll0]
  | x :: l, h => by simp [PyData.canLayAll0, PyData.canLay0, h x List.mem_cons_self, lay_strs l fun s hs => h s (List.mem_cons_of_mem _ hs)]
theorem dep_strs : ∀ l : List Str, PyData.depthAll (l.map PyData.str) ≤ 1
  | [] => by simp [PyData.depthAll]
  | x :: l => by
    have := dep_strs l
    simp [PyData.depthAll, PyData.depth]
    omega
theorem eq_strs_nil (l : List Str) (h : ∀ s ∈ l, PyData.strOk s = true) : eqD (.lst (l.map D.str)) (.lst []) = some (decide (l = [])) := by
  rw [eq_nil' (toPs_strs l) (lay_strs l h) (by have := dep_strs l; omega)]
  cases l <;> simp
theorem eq_strs (l : List Str) (h : ∀ s ∈ l, PyData.strOk s = true) : eqD (.lst (l.map D.str)) (.lst (l.map D.str)) = some true := by
  refine eq_same' (p := .list (l.map PyData.str)) (by rw [toP_lst, toPs_strs]; rfl) (by rw [toP_lst, toPs_strs]; rfl) rfl (by simpa [PyData.canLay0] using lay_strs l h) ?_
  have := dep_strs l
  simp only [PyData.depth]
  omega
theorem toPs_ints' : ∀ xs : List Int, toPs (xs.map D.int) = some (xs.map PyData.int)
  | [] => rfl
  | x :: xs => by rw [List.map_cons, toPs_cons, toPs_ints' xs]; rfl
theorem eq_ints_nil' (xs : List Int) : eqD (.lst (xs.map .int)) (.lst []) = some (decide (xs = [])) := by
  rw [eq_nil' (toPs_ints' xs) (PySem.W.canLayAll0_ints xs) (by have := PySem.W.depthAll_ints xs; omega)]
  cases xs <;> simp
/-! patterns -/
mutual
def pdP : Pat → PyData
  | .none => .tuple [.str "none"]
  | .one s => .tuple [.str "one", .str s]
  | .row ps => .tuple [.str "row", .list (pdPs ps)]
  | .any ps => .tuple [.str "any", .list (pdPs ps)]
  | .maybe p => .tuple [.str "maybe", pdP p]
  | .many p => .tuple [.str "many", pdP p]
  | .some p => .tuple [.str "some", pdP p]
def pdPs : List Pat → List PyData
  | [] => []
  | p :: ps => pdP p :: pdPs ps
end
theorem toP_of {d : D} {l : List D} (h : d.un = .tup l) : D.toP d = (toPs l).map .tuple := by rw [← toP_un, h]; rfl
theorem toP_ofl {d : D} {l : List D} (h : d.un = .lst l) : D.toP d = (toPs l).map .list := by rw [← toP_un, h]; rfl
mutual
theorem TP.toP : ∀ {p : Pat} {d : D}, TP p d → D.toP d = some (pdP p)
  | .none, d, h => by rw [toP_of h]; rfl
  | .one s, d, h => by rw [toP_of h]; rfl
  | .row ps, d, ⟨l, ds, h, hl, t⟩ => by rw [toP_of h, toPs_cons, toPs_cons, toP_ofl hl, TPs.toP t]; rfl
  | .any ps, d, ⟨l, ds, h, hl, t⟩ => by rw [toP_of h, toPs_cons, toPs_cons, toP_ofl hl, TPs.toP t]; rfl
  | .maybe p, d, ⟨l, h, t⟩ => by rw [toP_of h, toPs_cons, toPs_cons, TP.toP t]; rfl
  | .many p, d, ⟨l, h, t⟩ => by rw [toP_of h, toPs_cons, toPs_cons, TP.toP t]; rfl
  | .some p, d, ⟨l, h, t⟩ => by rw [toP_of h, toPs_cons, toPs_cons, TP.toP t]; rfl
theorem TPs.toP : ∀ {ps : List Pat} {ds : List D}, TPs ps ds → toPs ds = some (pdPs ps)
  | [], ds, h => by rw [show ds = [] from h]; rfl
  | p :: ps, ds, ⟨d, r, e, t, ts⟩ => by subst e; rw [toPs_cons, TP.toP t, TPs.toP ts]; rfl
end
theorem tags_ok : PyData.strOk "none" = true ∧ PyData.strOk "one" = true ∧ PyData.strOk "row" = true ∧ PyData.strOk "any" = true ∧ PyData.strOk "maybe" = true ∧ PyData.strOk "many" = true ∧ PyData.strOk "some" = true := by decide +kernel
mutual
theorem lay_Pt : ∀ (p : Pat), (∀ s ∈ signsP p, PyData.strOk s = true) → (pdP p).canLay0 = true
  | .none, _ => by simp [pdP, PyData.canLay0, PyData.canLayAll0, tags_ok]
  | .one s, h => by simp [pdP, PyData.canLay0, PyData.canLayAll0, tags_ok, h s (by simp [signsP])]
  | .row ps, h => by simp [pdP, PyData.canLay0, PyData.canLayAll0, tags_ok, lay_Pts ps h]
  | .any ps, h => by simp [pdP, PyData.canLay0, PyData.canLayAll0, tags_ok, lay_Pts ps h]
  | .maybe p, h => by simp [pdP, PyData.canLay0, PyData.canLayAll0, tags_ok, lay_Pt p h]
  | .many p, h => by simp [pdP, PyData.canLay0, PyData.canLayAll0, tags_ok, lay_Pt p h]
  | .some p, h => by simp [pdP, PyData.canLay0, PyData.canLayAll0, tags_ok, lay_Pt p h]
theorem lay_Pts : ∀ (ps : List Pat), (∀ s ∈ signsPs ps, PyData.strOk s = true) → PyData.canLayAll0 (pdPs ps) = true
  | [], _ => by simp [pdPs, PyData.canLayAll0]
  | p :: ps, h => by
    simp only [signsPs, List.mem_append] at h
    simp [pdPs, PyData.canLayAll0, lay_Pt p fun s hs => h s (.inl hs), lay_Pts ps fun s hs => h s (.inr hs)]
end
mutual
theorem dep_Pt : ∀ (p : Pat), (pdP p).depth ≤ 2 * dpP p
  | .none => by simp [pdP, PyData.depth, PyData.depthAll, dpP]
  | .one s => by simp [pdP, PyData.depth, PyData.depthAll, dpP]
  | .row ps => by have := dep_Pts ps; simp [pdP, PyData.depth, PyData.depthAll, dpP]; omega
  | .any ps => by have := dep_Pts ps; simp [pdP, PyData.depth, PyData.depthAll, dpP]; omega
  | .maybe p => by have := dep_Pt p; have := dp_pos p; simp [pdP, PyData.depth, PyData.depthAll, dpP]; omega
  | .many p => by have := dep_Pt p; have := dp_pos p; simp [pdP, PyData.depth, PyData.depthAll, dpP]; omega
  | .some p => by have := dep_Pt p; have := dp_pos p; simp [pdP, PyData.depth, PyData.depthAll, dpP]; omega
theorem dep_Pts : ∀ (ps : List Pat), PyData.depthAll (pdPs ps) ≤ 2 * dpPs ps
  | [] => by simp [pdPs, PyData.depthAll]
  | p :: ps => by
    have := dep_Pt p
    have := dep_Pts ps
    simp only [pdPs, PyData.depthAll, dpPs]
    omega
end
mutual
theorem dp_wd : ∀ p : Pat, dpP p ≤ wdP p
  | .none => by simp [dpP, wdP]
  | .one _ => by simp [dpP, wdP]
  | .row ps => by have := dp_wds ps; simp [dpP, wdP]; omega
  | .any ps => by have := dp_wds ps; simp [dpP, wdP]; omega
  | .maybe p => by have := dp_wd p; simp [dpP, wdP]; omega
  | .many p => by have := dp_wd p; simp [dpP, wdP]; omega
  | .some p => by have := dp_wd p; simp [dpP, wdP]; omega
theorem dp_wds : ∀ ps : List Pat, dpPs ps ≤ wdPs ps
  | [] => Nat.le_refl _
  | p :: ps => by
    have := dp_wd p
    have := dp_wds ps
    simp only [dpPs, wdPs]
    omega
end
theorem TP.eq {p : Pat} {d e : D} (h1 : TP p d) (h2 : TP p e) (hs : ∀ s ∈ signsP p, PyData.strOk s = true) (hw : wdP p ≤ 100) : eqD d.un e.un = some true := by
  have := dp_wd p
  have := dep_Pt p
  refine eq_same' (p := pdP p) (by rw [toP_un]; exact h1.toP) (by rw [toP_un]; exact h2.toP) ?_ (lay_Pt p hs) (by omega)
  obtain ⟨r, e⟩ := h1.tag
  rw [e]
  rfl
theorem TPs.eq_nil {ps : List Pat} {ds : List D} (h : TPs ps ds) (hs : ∀ s ∈ signsPs ps, PyData.strOk s = true) (hw : wdPs ps ≤ 99) : eqD (.lst ds) (.lst []) = some (decide (ps = [])) := by
  have := dp_wds ps
  have := dep_Pts ps
  rw [eq_nil' h.toP (lay_Pts ps hs) (by omega)]
  cases ps with
  | nil => rw [show ds = [] from h]; simp
  | cons p ps => obtain ⟨d, r, rfl, _⟩ := h; simp
end Dv
namespace Dv
open PySem PySem.Spec L2
mutual
theorem cost_le (m : Nat) : ∀ (p : Pat), (signsP p).length ≤ m → costP p + m * m ≤ 2 * (wdP p * (m * m))
  | .none, _ => by simp [costP, wdP]; omega
  | .one _, _ => by simp [costP, wdP]; omega
  | .row ps, h => by
    have := costR_le m ps [] (by simpa [signsP] using h)
    simp only [costP, wdP, Nat.add_mul]
    omega
  | .any ps, h => by
    have := costA_le m ps (by simpa [signsP] using h)
    simp only [costP, wdP, Nat.add_mul]
    omega
  | .maybe p, h => by
    have := cost_le m p (by simpa [signsP] using h)
    simp only [costP, wdP, Nat.add_mul]
    omega
  | .many p, h => by
    have h : (signsP p).length ≤ m := by simpa [signsP] using h
    have := cost_le m p h
    have := Nat.mul_le_mul (Nat.le_trans (lastsP_len p) h) (Nat.le_trans (firstsP_len p) h)
    simp only [costP, wdP, Nat.add_mul]
    omega
  | .some p, h => by
    have h : (signsP p).length ≤ m := by simpa [signsP] using h
    have := cost_le m p h
    have := Nat.mul_le_mul (Nat.le_trans (lastsP_len p) h) (Nat.le_trans (firstsP_len p) h)
    simp only [costP, wdP, Nat.add_mul]
    omega
theorem costR_le (m : Nat) : ∀ (ps : List Pat) (hs : List Str), hs.length + (signsPs ps).length ≤ m → costRow ps hs ≤ 2 * (wdPs ps * (m * m))
  | [], _, _ => by simp [costRow]
  | p :: ps, hs, h => by
    simp only [signsPs, List.length_append] at h
    have c := cost_le m p (by omega)
    have l := lastsP_len p
    have hl : (headsOf hs p).length ≤ hs.length + (lastsP p).length := by
      unfold headsOf
      rw [List.length_append]
      split <;> simp
    have r := costR_le m ps (headsOf hs p) (by omega)
    have := Nat.mul_le_mul (show hs.length ≤ m by omega) (Nat.le_trans (firstsP_len p) (show (signsP p).length ≤ m by omega))
    simp only [costRow, wdPs, Nat.add_mul]
    omega
theorem costA_le (m : Nat) : ∀ (ps : List Pat), (signsPs ps).length ≤ m → costAny ps ≤ 2 * (wdPs ps * (m * m))
  | [], _ => by simp [costAny]
  | p :: ps, h => by
    simp only [signsPs, List.length_append] at h
    have c := cost_le m p (by omega)
    have r := costA_le m ps (by omega)
    simp only [costAny, wdPs, Nat.add_mul]
    omega
end
end Dv
namespace Dv
open PySem PySem.Spec L2
/-! ### what follows what -/
mutual
def FolP : Pat → Str → Str → Prop
  | .none, _, _ => False | .one _, _, _ => False
  | .row ps, a, b => FolR ps a b | .any ps, a, b => FolA ps a b | .maybe p, a, b => FolP p a b
  | .some p, a, b => FolP p a b ∨ (a ∈ lastsP p ∧ b ∈ firstsP p)
  | .many p, a, b => FolP p a b ∨ (a ∈ lastsP p ∧ b ∈ firstsP p)
def FolR : List Pat → Str → Str → Prop
  | [], _, _ => False
  | p :: ps, a, b => FolP p a b ∨ FolR ps a b ∨ (a ∈ lastsP p ∧ b ∈ firstsRow ps)
def FolA : List Pat → Str → Str → Prop
  | [], _, _ => False
  | p :: ps, a, b => FolP p a b ∨ FolA ps a b
end
mutual
theorem fol_sub : ∀ (p : Pat) {a b : Str}, FolP p a b → a ∈ signsP p ∧ b ∈ signsP p
  | .none, a, b, h => by simp [FolP] at h
  | .one _, a, b, h => by simp [FolP] at h
  | .row ps, a, b, h => by simpa only [signsP] using folR_sub ps (by simpa only [FolP] using h)
  | .any ps, a, b, h => by simpa only [signsP] using folA_sub ps (by simpa only [FolP] using h)
  | .maybe p, a, b, h => by simpa only [signsP] using fol_sub p (by simpa only [FolP] using h)
  | .some p, a, b, h => by
    simp only [FolP] at h
    simp only [signsP]
    exact h.elim (fol_sub p) fun h => ⟨lasts_sub p h.1, firsts_sub p h.2⟩
  | .many p, a, b, h => by
    simp only [FolP] at h
    simp only [signsP]
    exact h.elim (fol_sub p) fun h => ⟨lasts_sub p h.1, firsts_sub p h.2⟩
theorem folR_sub : ∀ (ps : List Pat) {a b : Str}, FolR ps a b → a ∈ signsPs ps ∧ b ∈ signsPs ps
  | [], a, b, h => by simp [FolR] at h
  | p :: ps, a, b, h => by
    simp only [FolR] at h
    simp only [signsPs, List.mem_append]
    rcases h with h | h | h
    · exact ⟨.inl (fol_sub p h).1, .inl (fol_sub p h).2⟩
    · exact ⟨.inr (folR_sub ps h).1, .inr (folR_sub ps h).2⟩
    · exact ⟨.inl (lasts_sub p h.1), .inr (firsts_subR ps h.2)⟩
theorem folA_sub : ∀ (ps : List Pat) {a b : Str}, FolA ps a b → a ∈ signsPs ps ∧ b ∈ signsPs ps
  | [], a, b, h => by simp [FolA] at h
  | p :: ps, a, b, h => by
    simp only [FolA] at h
    simp only [signsPs, List.mem_append]
    rcases h with h | h
    · exact ⟨.inl (fol_sub p h).1, .inl (fol_sub p h).2⟩
    · exact ⟨.inr (folA_sub ps h).1, .inr (folA_sub ps h).2⟩
end
/-! ### the tables hold that -/
def hasT (T : Tab) (a b : Str) : Prop := ∃ e ∈ T, e.1 = a ∧ b ∈ e.2.2
theorem has_addOne (T : Tab) (h x a b : Str) : hasT (addOne T h x) a b ↔ hasT T a b ∨ (a ∈ T.ks ∧ a = h ∧ b = x) := by
  unfold hasT addOne
  constructor
  · rintro ⟨e, he, e1, e2⟩
    obtain ⟨f, hf, rfl⟩ := List.mem_map.mp he
    by_cases c : f.1 = h
    · rw [if_pos c] at e1 e2
      by_cases d : x ∈ f.2.2
      · simp only [if_pos d] at e2
        exact .inl ⟨f, hf, e1, e2⟩
      · simp only [if_neg d] at e2
        rcases List.mem_append.mp e2 with e2 | e2
        · exact .inl ⟨f, hf, e1, e2⟩
        · exact .inr ⟨List.mem_map.mpr ⟨f, hf, e1⟩, e1.symm.trans c, List.mem_singleton.mp e2⟩
    · rw [if_neg c] at e1 e2
      exact .inl ⟨f, hf, e1, e2⟩
  · rintro (⟨f, hf, e1, e2⟩ | ⟨hk, rfl, rfl⟩)
    · refine ⟨_, List.mem_map.mpr ⟨f, hf, rfl⟩, ?_, ?_⟩
      · by_cases c : f.1 = h
        · rw [if_pos c]; exact e1
        · rw [if_neg c]; exact e1
      · by_cases c : f.1 = h
        · rw [if_pos c]
          by_cases d : x ∈ f.2.2
          · simp only [if_pos d]; exact e2
          · simp only [if_neg d]; exact List.mem_append_left _ e2
        · rw [if_neg c]; exact e2
    · obtain ⟨f, hf, e1⟩ := List.mem_map.mp hk
      refine ⟨_, List.mem_map.mpr ⟨f, hf, rfl⟩, ?_, ?_⟩
      · rw [if_pos e1]; exact e1
      · rw [if_pos e1]
        by_cases d : b ∈ f.2.2
        · simp only [if_pos d]; exact d
        · simp only [if_neg d]; exact List.mem_append_right _ (List.mem_singleton.mpr rfl)
theorem has_layH (h a b : Str) : ∀ (ts : List Str) (T : Tab), hasT (layH T h ts) a b ↔ hasT T a b ∨ (a ∈ T.ks ∧ a = h ∧ b ∈ ts)
  | [], T => by simp [layH]
  | x :: ts, T => by
    have := has_layH h a b ts (addOne T h x)
    rw [show layH T h (x :: ts) = layH (addOne T h x) h ts from rfl, this, has_addOne, add_ks, List.mem_cons]
    constructor
    · rintro ((h1 | ⟨h1, h2, h3⟩) | ⟨h1, h2, h3⟩)
      · exact .inl h1
      · exact .inr ⟨h1, h2, .inl h3⟩
      · exact .inr ⟨h1, h2, .inr h3⟩
    · rintro (h1 | ⟨h1, h2, h3 | h3⟩)
      · exact .inl (.inl h1)
      · exact .inl (.inr ⟨h1, h2, h3⟩)
      · exact .inr ⟨h1, h2, h3⟩
theorem has_layT (ts : List Str) (a b : Str) : ∀ (hs : List Str) (T : Tab), hasT (layT T hs ts) a b ↔ hasT T a b ∨ (a ∈ T.ks ∧ a ∈ hs ∧ b ∈ ts)
  | [], T => by simp [layT]
  | h :: hs, T => by
    have := has_layT ts a b hs (layH T h ts)
    rw [show layT T (h :: hs) ts = layT (layH T h ts) hs ts from rfl, this, has_layH, layH_ks, List.mem_cons]
    constructor
    · rintro ((h1 | ⟨h1, h2, h3⟩) | ⟨h1, h2, h3⟩)
      · exact .inl h1
      · exact .inr ⟨h1, .inl h2, h3⟩
      · exact .inr ⟨h1, .inr h2, h3⟩
    · rintro (h1 | ⟨h1, h2 | h2, h3⟩)
      · exact .inl (.inl h1)
      · exact .inl (.inr ⟨h1, h2, h3⟩)
      · exact .inr ⟨h1, h2, h3⟩
mutual
theorem has_addT (a b : Str) : ∀ (p : Pat) (T : Tab), hasT (addT p T) a b ↔ hasT T a b ∨ (a ∈ T.ks ∧ FolP p a b)
  | .none, T => by simp [addT, FolP]
  | .one _, T => by simp [addT, FolP]
  | .row ps, T => by
    have := has_addRow a b ps [] T
    simpa [addT, FolP] using this
  | .any ps, T => by
    have := has_addAny a b ps T
    simpa [addT, FolP] using this
  | .maybe p, T => by
    have := has_addT a b p T
    simpa [addT, FolP] using this
  | .some p, T => by
    have := has_addT a b p T
    simp only [addT, FolP]
    rw [has_layT, this, (add_asP p T).2]
    constructor
    · rintro ((h | h) | h)
      · exact .inl h
      · exact .inr ⟨h.1, .inl h.2⟩
      · exact .inr ⟨h.1, .inr h.2⟩
    · rintro (h | ⟨h, k | k⟩)
      · exact .inl (.inl h)
      · exact .inl (.inr ⟨h, k⟩)
      · exact .inr ⟨h, k⟩
  | .many p, T => by
    have := has_addT a b p T
    simp only [addT, FolP]
    rw [has_layT, this, (add_asP p T).2]
    constructor
    · rintro ((h | h) | h)
      · exact .inl h
      · exact .inr ⟨h.1, .inl h.2⟩
      · exact .inr ⟨h.1, .inr h.2⟩
    · rintro (h | ⟨h, k | k⟩)
      · exact .inl (.inl h)
      · exact .inl (.inr ⟨h, k⟩)
      · exact .inr ⟨h, k⟩
theorem has_addRow (a b : Str) : ∀ (ps : List Pat) (hs : List Str) (T : Tab), hasT (addRow ps hs T) a b ↔ hasT T a b ∨ (a ∈ T.ks ∧ (FolR ps a b ∨ (a ∈ hs ∧ b ∈ firstsRow ps)))
  | [], hs, T => by simp [addRow, FolR, firstsRow]
  | p :: ps, hs, T => by
    have h1 := has_addT a b p T
    have h2 := has_addRow a b ps (headsOf hs p) (layT (addT p T) hs (firstsP p))
    have k := (add_asP p T).2
    simp only [addRow, FolR, firstsRow]
    rw [h2, has_layT, h1, layT_ks, k]
    have hh : a ∈ headsOf hs p ↔ (bareP p = true ∧ a ∈ hs) ∨ a ∈ lastsP p := by
      unfold headsOf
      rw [List.mem_append]
      cases bareP p <;> simp
    have hf : b ∈ firstsP p ++ (if bareP p = true then firstsRow ps else []) ↔ b ∈ firstsP p ∨ (bareP p = true ∧ b ∈ firstsRow ps) := by
      rw [List.mem_append]
      cases bareP p <;> simp
    rw [hh, hf]
    constructor
    · rintro (((h | ⟨h, k⟩) | ⟨h, k, l⟩) | ⟨h, k | ⟨⟨l, m⟩ | l, r⟩⟩)
      · exact .inl h
      · exact .inr ⟨h, .inl (.inl k)⟩
      · exact .inr ⟨h, .inr ⟨k, .inl l⟩⟩
      · exact .inr ⟨h, .inl (.inr (.inl k))⟩
      · exact .inr ⟨h, .inr ⟨m, .inr ⟨l, r⟩⟩⟩
      · exact .inr ⟨h, .inl (.inr (.inr ⟨l, r⟩))⟩
    · rintro (h | ⟨h, (k | k | ⟨l, r⟩) | ⟨k, l | ⟨l, r⟩⟩⟩)
      · exact .inl (.inl (.inl h))
      · exact .inl (.inl (.inr ⟨h, k⟩))
      · exact .inr ⟨h, .inl k⟩
      · exact .inr ⟨h, .inr ⟨.inr l, r⟩⟩
      · exact .inl (.inr ⟨h, k, l⟩)
      · exact .inr ⟨h, .inr ⟨.inl ⟨l, k⟩, r⟩⟩
theorem has_addAny (a b : Str) : ∀ (ps : List Pat) (T : Tab), hasT (addAny ps T) a b ↔ hasT T a b ∨ (a ∈ T.ks ∧ FolA ps a b)
  | [], T => by simp [addAny, FolA]
  | p :: ps, T => by
    have h1 := has_addT a b p T
    have h2 := has_addAny a b ps (addT p T)
    have k := (add_asP p T).2
    simp only [addAny, FolA]
    rw [h2, h1, k]
    constructor
    · rintro ((h | ⟨h, k⟩) | ⟨h, k⟩)
      · exact .inl h
      · exact .inr ⟨h, .inl k⟩
      · exact .inr ⟨h, .inr k⟩
    · rintro (h | ⟨h, k | k⟩)
      · exact .inl (.inl h)
      · exact .inl (.inr ⟨h, k⟩)
      · exact .inr ⟨h, k⟩
end
theorem inj_nd {α β : Type} {f : α → β} : ∀ {l : List α}, (l.map f).Nodup → ∀ {x y : α}, x ∈ l → y ∈ l → f x = f y → x = y
  | z :: l, h, x, y, hx, hy, e => by
    rw [List.map_cons, List.nodup_cons] at h
    rcases List.mem_cons.mp hx with rfl | hx
    · rcases List.mem_cons.mp hy with rfl | hy
      · rfl
      · exact absurd (List.mem_map.mpr ⟨y, hy, e.symm⟩) h.1
    · rcases List.mem_cons.mp hy with e2 | hy
      · rw [e2] at e
        exact absurd (List.mem_map.mpr ⟨x, hx, e⟩) h.1
      · exact inj_nd h.2 hx hy e
theorem nextL_iff {p : Pat} (nd : (signsP p).Nodup) {a b : Str} (ha : a ∈ signsP p) : b ∈ nextL p a ↔ FolP p a b := by
  have ks : (next0 p).ks = signsP p := by
    unfold next0
    rw [(add_asP p _).2]
    show List.map _ (List.map _ _) = _
    rw [List.map_map]
    exact (List.map_congr_left fun _ _ => rfl).trans (List.map_id _)
  have has : hasT (next0 p) a b ↔ FolP p a b := by
    unfold next0
    rw [has_addT]
    have k : a ∈ Tab.ks ((signsP p).map fun s => ((s, 0, []) : Str × Addr × List Str)) := by
      show a ∈ List.map _ (List.map _ _)
      rw [List.map_map]
      exact List.mem_map.mpr ⟨a, ha, rfl⟩
    constructor
    · rintro (⟨e, he, _, e2⟩ | h)
      · obtain ⟨s, _, rfl⟩ := List.mem_map.mp he
        cases e2
      · exact h.2
    · exact fun h => .inr ⟨k, h⟩
  rw [← has]
  unfold nextL
  cases c : (next0 p).find? fun e => decide (e.1 = a) with
  | none =>
    have := List.find?_eq_none.mp c
    constructor
    · intro h; cases h
    · rintro ⟨e, he, e1, _⟩
      exact absurd (decide_eq_true e1) (this e he)
  | some e =>
    have e1 : e.1 = a := of_decide_eq_true (List.find?_some (p := fun e : Str × Addr × List Str => decide (e.1 = a)) c)
    have em := List.mem_of_find?_eq_some c
    constructor
    · exact fun h => ⟨e, em, e1, h⟩
    · rintro ⟨f, hf, f1, f2⟩
      have : f = e := by
        have nk : ((next0 p).map (·.1)).Nodup := by rw [show (next0 p).map (·.1) = signsP p from ks]; exact nd
        exact inj_nd nk hf em (f1.trans e1.symm)
      subst this
      exact f2
end Dv
namespace Dv
open PySem PySem.Spec L2
/-! ### what a pattern means -/
inductive Rep' (X : List Str → Prop) : List Str → Prop
  | one {w : List Str} : X w → Rep' X w
  | more {u v : List Str} : X u → Rep' X v → Rep' X (u ++ v)
mutual
def LP : Pat → List Str → Prop
  | .none, w => w = [] | .one s, w => w = [s] | .row ps, w => LR ps w | .any ps, w => LA ps w
  | .maybe p, w => w = [] ∨ LP p w | .some p, w => Rep' (fun u => LP p u) w | .many p, w => w = [] ∨ Rep' (fun u => LP p u) w
def LR : List Pat → List Str → Prop
  | [], w => w = []
  | p :: ps, w => ∃ u v, w = u ++ v ∧ LP p u ∧ LR ps v
def LA : List Pat → List Str → Prop
  | [], _ => False
  | p :: ps, w => LP p w ∨ LA ps w
end
theorem rep_nil {X : List Str → Prop} (h : Rep' X []) : X [] := by
  generalize e : ([] : List Str) = w at h
  induction h with
  | one h => subst e; exact h
  | more h _ _ => rw [(List.append_eq_nil_iff.mp e.symm).1] at h; rw [← e]; exact h
mutual
theorem bare_iff : ∀ p : Pat, bareP p = true ↔ LP p []
  | .none => by simp [bareP, LP]
  | .one _ => by simp [bareP, LP]
  | .row ps => by simp only [bareP, LP]; exact bareR_iff ps
  | .any ps => by simp only [bareP, LP]; exact bareA_iff ps
  | .maybe p => by simp [bareP, LP]
  | .many p => by simp [bareP, LP]
  | .some p => by
    simp only [bareP, LP]
    rw [bare_iff p]
    exact ⟨Rep'.one, rep_nil⟩
theorem bareR_iff : ∀ ps : List Pat, bareAll ps = true ↔ LR ps []
  | [] => by simp [bareAll, LR]
  | p :: ps => by
    simp only [bareAll, LR, Bool.and_eq_true]
    rw [bare_iff p, bareR_iff ps]
    constructor
    · exact fun h => ⟨[], [], rfl, h.1, h.2⟩
    · rintro ⟨u, v, e, h1, h2⟩
      obtain ⟨rfl, rfl⟩ := List.append_eq_nil_iff.mp e.symm
      exact ⟨h1, h2⟩
theorem bareA_iff : ∀ ps : List Pat, bareAny ps = true ↔ LA ps []
  | [] => by simp [bareAny, LA]
  | p :: ps => by
    simp only [bareAny, LA, Bool.or_eq_true]
    rw [bare_iff p, bareA_iff ps]
end
/-! ### words step by step -/
def Path (R : Str → Str → Prop) : List Str → Prop
  | a :: b :: w => R a b ∧ Path R (b :: w)
  | _ => True
/-- begins with one of F, ends with one of G, each one's follower by R -/
def Fit (F G : List Str) (R : Str → Str → Prop) (w : List Str) : Prop := (∃ a r, w = a :: r ∧ a ∈ F) ∧ (∃ q z, w = q ++ [z] ∧ z ∈ G) ∧ Path R w
theorem Path.mono {R S : Str → Str → Prop} (h : ∀ a b, R a b → S a b) : ∀ {w : List Str}, Path R w → Path S w
  | [], _ => trivial
  | [_], _ => trivial
  | a :: b :: w, ⟨h1, h2⟩ => ⟨h a b h1, Path.mono h h2⟩
theorem Path.app {R : Str → Str → Prop} {z a : Str} {v : List Str} (hR : R z a) (hv : Path R (a :: v)) : ∀ {q : List Str}, Path R (q ++ [z]) → Path R (q ++ [z] ++ a :: v)
  | [], _ => ⟨hR, hv⟩
  | [b], ⟨h, _⟩ => ⟨h, hR, hv⟩
  | b :: c :: q, ⟨h, k⟩ => ⟨h, Path.app hR hv (q := c :: q) k⟩
theorem Fit.mono {F G F' G' : List Str} {R R' : Str → Str → Prop} {w : List Str} (h : Fit F G R w) (f : ∀ a ∈ F, a ∈ F') (g : ∀ a ∈ G, a ∈ G') (r : ∀ a b, R a b → R' a b) : Fit F' G' R' w := by
  obtain ⟨⟨a, r', e, ha⟩, ⟨q, z, e', hz⟩, p⟩ := h
  exact ⟨⟨a, r', e, f a ha⟩, ⟨q, z, e', g z hz⟩, p.mono r⟩
theorem Fit.app {F G F2 G2 : List Str} {R : Str → Str → Prop} {u v : List Str} (h1 : Fit F G R u) (h2 : Fit F2 G2 R v) (hR : ∀ a b, a ∈ G → b ∈ F2 → R a b) : Fit F G2 R (u ++ v) := by
  obtain ⟨⟨a, r, e1, ha⟩, ⟨q, z, e2, hz⟩, p1⟩ := h1
  obtain ⟨⟨b, r2, e3, hb⟩, ⟨q2, z2, e4, hz2⟩, p2⟩ := h2
  refine ⟨⟨a, r ++ v, by rw [e1]; rfl, ha⟩, ⟨u ++ q2, z2, by rw [e4, List.append_assoc], hz2⟩, ?_⟩
  rw [e2] at p1 ⊢
  rw [e3] at p2 ⊢
  exact Path.app (hR z b hz hb) p2 p1
theorem rep_fit {X : List Str → Prop} {F G : List Str} {R : Str → Str → Prop} (hX : ∀ w, X w → w = [] ∨ Fit F G R w) (hR : ∀ a b, a ∈ G → b ∈ F → R a b) {w : List Str} (h : Rep' X w) : w = [] ∨ Fit F G R w := by
  induction h with
  | one h => exact hX _ h
  | @more u v h _ ih =>
    rcases hX u h with rfl | h
    · exact ih
    · rcases ih with rfl | ih
      · rw [List.append_nil]; exact .inr h
      · exact .inr (h.app ih hR)
mutual
theorem fit_of : ∀ (p : Pat) (w : List Str), LP p w → w = [] ∨ Fit (firstsP p) (lastsP p) (FolP p) w
  | .none, w, h => .inl (by simpa only [LP] using h)
  | .one s, w, h => by
    simp only [LP] at h
    subst h
    exact .inr ⟨⟨s, [], rfl, by simp [firstsP]⟩, ⟨[], s, rfl, by simp [lastsP]⟩, trivial⟩
  | .row ps, w, h => by
    have := fitR_of ps w (by simpa only [LP] using h)
    exact this.imp id fun h => h.mono (by simp [firstsP]) (by simp [lastsP]) (by simp [FolP])
  | .any ps, w, h => by
    have := fitA_of ps w (by simpa only [LP] using h)
    exact this.imp id fun h => h.mono (by simp [firstsP]) (by simp [lastsP]) (by simp [FolP])
  | .maybe p, w, h => by
    simp only [LP] at h
    rcases h with h | h
    · exact .inl h
    · exact (fit_of p w h).imp id fun h => h.mono (by simp [firstsP]) (by simp [lastsP]) (by simp [FolP])
  | .some p, w, h => by
    simp only [LP] at h
    refine (rep_fit (R := FolP (.some p)) (fun u hu => (fit_of p u hu).imp id fun h => h.mono (fun _ h => h) (fun _ h => h) (by simp only [FolP]; exact fun _ _ h => .inl h)) (by simp only [FolP]; exact fun _ _ h k => .inr ⟨h, k⟩) h).imp id fun h => h.mono (by simp [firstsP]) (by simp [lastsP]) (fun _ _ h => h)
  | .many p, w, h => by
    simp only [LP] at h
    rcases h with h | h
    · exact .inl h
    · refine (rep_fit (R := FolP (.many p)) (fun u hu => (fit_of p u hu).imp id fun h => h.mono (fun _ h => h) (fun _ h => h) (by simp only [FolP]; exact fun _ _ h => .inl h)) (by simp only [FolP]; exact fun _ _ h k => .inr ⟨h, k⟩) h).imp id fun h => h.mono (by simp [firstsP]) (by simp [lastsP]) (fun _ _ h => h)
theorem fitR_of : ∀ (ps : List Pat) (w : List Str), LR ps w → w = [] ∨ Fit (firstsRow ps) (lastsRow ps) (FolR ps) w
  | [], w, h => .inl (by simpa only [LR] using h)
  | p :: ps, w, h => by
    simp only [LR] at h
    obtain ⟨u, v, rfl, h1, h2⟩ := h
    have b1 := bare_iff p
    have b2 := bareR_iff ps
    have i1 := fit_of p u h1
    have i2 := fitR_of ps v h2
    rcases i1 with rfl | i1
    · rcases i2 with rfl | i2
      · exact .inl rfl
      · refine .inr (i2.mono (fun a h => ?_) (fun a h => ?_) (fun a b h => ?_))
        · simp only [firstsRow, b1.mpr h1, if_true, List.mem_append]; exact .inr h
        · simp only [lastsRow, List.mem_append]; exact .inr h
        · simp only [FolR]; exact .inr (.inl h)
    · rcases i2 with rfl | i2
      · rw [List.append_nil]
        refine .inr (i1.mono (fun a h => ?_) (fun a h => ?_) (fun a b h => ?_))
        · simp only [firstsRow, List.mem_append]; exact .inl h
        · simp only [lastsRow, b2.mpr h2, if_true, List.mem_append]; exact .inl h
        · simp only [FolR]; exact .inl h
      · refine .inr (Fit.app (i1.mono (F' := firstsRow (p :: ps)) (R' := FolR (p :: ps)) (fun a h => ?_) (fun a h => h) (fun a b h => ?_)) (i2.mono (G' := lastsRow (p :: ps)) (R' := FolR (p :: ps)) (fun a h => h) (fun a h => ?_) (fun a b h => ?_)) fun a b h k => ?_)
        · simp only [firstsRow, List.mem_append]; exact .inl h
        · simp only [FolR]; exact .inl h
        · simp only [lastsRow, List.mem_append]; exact .inr h
        · simp only [FolR]; exact .inr (.inl h)
        · simp only [FolR]; exact .inr (.inr ⟨h, k⟩)
theorem fitA_of : ∀ (ps : List Pat) (w : List Str), LA ps w → w = [] ∨ Fit (firstsAny ps) (lastsAny ps) (FolA ps) w
  | [], w, h => by simp [LA] at h
  | p :: ps, w, h => by
    simp only [LA] at h
    rcases h with h | h
    · refine (fit_of p w h).imp id fun h => h.mono (fun a h => ?_) (fun a h => ?_) (fun a b h => ?_)
      · simp only [firstsAny, List.mem_append]; exact .inl h
      · simp only [lastsAny, List.mem_append]; exact .inl h
      · simp only [FolA]; exact .inl h
    · refine (fitA_of ps w h).imp id fun h => h.mono (fun a h => ?_) (fun a h => ?_) (fun a b h => ?_)
      · simp only [firstsAny, List.mem_append]; exact .inr h
      · simp only [lastsAny, List.mem_append]; exact .inr h
      · simp only [FolA]; exact .inr h
end
/-! ### each sign once: a word that goes step by step is one of the pattern's -/
/-- the last one of a word that is not empty -/
theorem last_tail {q : List Str} {z a b : Str} {r : List Str} (h : a :: b :: r = q ++ [z]) : ∃ q', b :: r = q' ++ [z] := by
  cases q with
  | nil => simp at h
  | cons c q =>
    rw [List.cons_append] at h
    exact ⟨q, (List.cons.inj h).2⟩
theorem row_cut (p : Pat) (ps : List Pat) (nd : (signsP p ++ signsPs ps).Nodup) : ∀ (r : List Str) (a : Str), Path (FolR (p :: ps)) (a :: r) → (∃ q z, a :: r = q ++ [z] ∧ z ∈ lastsRow (p :: ps)) →
    (a ∈ signsP p → ∃ u v, a :: r = a :: u ++ v ∧ Path (FolP p) (a :: u) ∧ (∃ q z, a :: u = q ++ [z] ∧ z ∈ lastsP p) ∧ ((v = [] ∧ bareAll ps = true) ∨ Fit (firstsRow ps) (lastsRow ps) (FolR ps) v)) ∧
    (a ∈ signsPs ps → Path (FolR ps) (a :: r) ∧ ∃ q z, a :: r = q ++ [z] ∧ z ∈ lastsRow ps)
  | [], a, hp, ⟨q, z, e, hz⟩ => by
    have dj := (List.nodup_append.mp nd).2.2
    have ez : z = a := by
      cases q with
      | nil => exact (List.cons.inj e).1.symm
      | cons c q => simp at e
    subst ez
    simp only [lastsRow, List.mem_append] at hz
    refine ⟨fun ha => ?_, fun ha => ?_⟩
    · rcases hz with hz | hz
      · by_cases c : bareAll ps = true
        · rw [if_pos c] at hz
          exact ⟨[], [], rfl, trivial, ⟨[], z, rfl, hz⟩, .inl ⟨rfl, c⟩⟩
        · rw [if_neg c] at hz; cases hz
      · exact absurd rfl (dj z ha z (lasts_subR ps hz))
    · rcases hz with hz | hz
      · by_cases c : bareAll ps = true
        · rw [if_pos c] at hz
          exact absurd rfl (dj z (lasts_sub p hz) z ha)
        · rw [if_neg c] at hz; cases hz
      · exact ⟨trivial, [], z, rfl, hz⟩
  | b :: r, a, ⟨hab, hp⟩, ⟨q, z, e, hz⟩ => by
    have dj := (List.nodup_append.mp nd).2.2
    obtain ⟨q', e'⟩ := last_tail e
    obtain ⟨i1, i2⟩ := row_cut p ps nd r b hp ⟨q', z, e', hz⟩
    simp only [FolR] at hab
    refine ⟨fun ha => ?_, fun ha => ?_⟩
    · rcases hab with h | h | ⟨h, k⟩
      · obtain ⟨u, v, e1, e2, ⟨q2, z2, e3, e4⟩, e5⟩ := i1 (fol_sub p h).2
        exact ⟨b :: u, v, by rw [e1]; rfl, ⟨h, e2⟩, ⟨a :: q2, z2, by rw [e3]; rfl, e4⟩, e5⟩
      · exact absurd rfl (dj a ha a (folR_sub ps h).1)
      · obtain ⟨e2, e3⟩ := i2 (firsts_subR ps k)
        exact ⟨[], b :: r, rfl, trivial, ⟨[], a, rfl, h⟩, .inr ⟨⟨b, r, rfl, k⟩, e3, e2⟩⟩
    · rcases hab with h | h | ⟨h, k⟩
      · exact absurd rfl (dj a (fol_sub p h).1 a ha)
      · obtain ⟨e2, q2, z2, e3, e4⟩ := i2 (folR_sub ps h).2
        exact ⟨⟨h, e2⟩, a :: q2, z2, by rw [e3]; rfl, e4⟩
      · exact absurd rfl (dj a (lasts_sub p h) a ha)
theorem any_cut (p : Pat) (ps : List Pat) (nd : (signsP p ++ signsPs ps).Nodup) : ∀ (r : List Str) (a : Str), Path (FolA (p :: ps)) (a :: r) → (∃ q z, a :: r = q ++ [z] ∧ z ∈ lastsAny (p :: ps)) →
    (a ∈ signsP p → Path (FolP p) (a :: r) ∧ ∃ q z, a :: r = q ++ [z] ∧ z ∈ lastsP p) ∧
    (a ∈ signsPs ps → Path (FolA ps) (a :: r) ∧ ∃ q z, a :: r = q ++ [z] ∧ z ∈ lastsAny ps)
  | [], a, hp, ⟨q, z, e, hz⟩ => by
    have dj := (List.nodup_append.mp nd).2.2
    have ez : z = a := by
      cases q with
      | nil => exact (List.cons.inj e).1.symm
      | cons c q => simp at e
    subst ez
    simp only [lastsAny, List.mem_append] at hz
    refine ⟨fun ha => ?_, fun ha => ?_⟩
    · rcases hz with hz | hz
      · exact ⟨trivial, [], z, rfl, hz⟩
      · exact absurd rfl (dj z ha z (lasts_subA ps hz))
    · rcases hz with hz | hz
      · exact absurd rfl (dj z (lasts_sub p hz) z ha)
      · exact ⟨trivial, [], z, rfl, hz⟩
  | b :: r, a, ⟨hab, hp⟩, ⟨q, z, e, hz⟩ => by
    have dj := (List.nodup_append.mp nd).2.2
    obtain ⟨q', e'⟩ := last_tail e
    obtain ⟨i1, i2⟩ := any_cut p ps nd r b hp ⟨q', z, e', hz⟩
    simp only [FolA] at hab
    refine ⟨fun ha => ?_, fun ha => ?_⟩
    · rcases hab with h | h
      · obtain ⟨e2, q2, z2, e3, e4⟩ := i1 (fol_sub p h).2
        exact ⟨⟨h, e2⟩, a :: q2, z2, by rw [e3]; rfl, e4⟩
      · exact absurd rfl (dj a ha a (folA_sub ps h).1)
    · rcases hab with h | h
      · exact absurd rfl (dj a (fol_sub p h).1 a ha)
      · obtain ⟨e2, q2, z2, e3, e4⟩ := i2 (folA_sub ps h).2
        exact ⟨⟨h, e2⟩, a :: q2, z2, by rw [e3]; rfl, e4⟩
theorem rep_cut {F G : List Str} {R : Str → Str → Prop} {X : List Str → Prop} (hX : ∀ w, Fit F G R w → X w) : ∀ (r : List Str) (a : Str), Path (fun a b => R a b ∨ (a ∈ G ∧ b ∈ F)) (a :: r) → (∃ q z, a :: r = q ++ [z] ∧ z ∈ G) →
    ∃ u v, a :: r = a :: u ++ v ∧ Path R (a :: u) ∧ (∃ q z, a :: u = q ++ [z] ∧ z ∈ G) ∧ (v = [] ∨ Rep' X v)
  | [], a, _, ⟨q, z, e, hz⟩ => ⟨[], [], rfl, trivial, ⟨q, z, e, hz⟩, .inl rfl⟩
  | b :: r, a, ⟨hab, hp⟩, ⟨q, z, e, hz⟩ => by
    obtain ⟨q', e'⟩ := last_tail e
    obtain ⟨u, v, e1, e2, ⟨q2, z2, e3, e4⟩, e5⟩ := rep_cut hX r b hp ⟨q', z, e', hz⟩
    rcases hab with h | ⟨h, k⟩
    · exact ⟨b :: u, v, by rw [e1]; rfl, ⟨h, e2⟩, ⟨a :: q2, z2, by rw [e3]; rfl, e4⟩, e5⟩
    · refine ⟨[], b :: r, rfl, trivial, ⟨[], a, rfl, h⟩, .inr ?_⟩
      have x := hX (b :: u) ⟨⟨b, u, rfl, k⟩, ⟨q2, z2, e3, e4⟩, e2⟩
      rw [e1]
      rcases e5 with rfl | e5
      · rw [List.append_nil]; exact .one x
      · exact .more x e5
theorem rep_back {F G : List Str} {R : Str → Str → Prop} {X : List Str → Prop} (hX : ∀ w, Fit F G R w → X w) {w : List Str} (h : Fit F G (fun a b => R a b ∨ (a ∈ G ∧ b ∈ F)) w) : Rep' X w := by
  obtain ⟨⟨a, r, rfl, ha⟩, l, p⟩ := h
  obtain ⟨u, v, e1, e2, e3, e5⟩ := rep_cut hX r a p l
  have x := hX (a :: u) ⟨⟨a, u, rfl, ha⟩, e3, e2⟩
  rw [e1]
  rcases e5 with rfl | e5
  · rw [List.append_nil]; exact .one x
  · exact .more x e5
mutual
theorem of_fit : ∀ (p : Pat) (w : List Str), (signsP p).Nodup → Fit (firstsP p) (lastsP p) (FolP p) w → LP p w
  | .none, w, nd, ⟨⟨a, r, _, ha⟩, _, _⟩ => by simp [firstsP] at ha
  | .one s, w, nd, ⟨⟨a, r, e, ha⟩, _, p⟩ => by
    simp [firstsP] at ha
    subst ha e
    cases r with
    | nil => simp [LP]
    | cons b r => obtain ⟨h, _⟩ := p; simp [FolP] at h
  | .row ps, w, nd, h => by
    simp only [LP]
    exact ofR_fit ps w (by simpa only [signsP] using nd) (h.mono (by simp [firstsP]) (by simp [lastsP]) (by simp [FolP]))
  | .any ps, w, nd, h => by
    simp only [LP]
    exact ofA_fit ps w (by simpa only [signsP] using nd) (h.mono (by simp [firstsP]) (by simp [lastsP]) (by simp [FolP]))
  | .maybe p, w, nd, h => by
    simp only [LP]
    exact .inr (of_fit p w (by simpa only [signsP] using nd) (h.mono (by simp [firstsP]) (by simp [lastsP]) (by simp [FolP])))
  | .some p, w, nd, h => by
    simp only [LP]
    exact rep_back (fun u hu => of_fit p u (by simpa only [signsP] using nd) hu) (h.mono (by simp [firstsP]) (by simp [lastsP]) (by simp [FolP]))
  | .many p, w, nd, h => by
    simp only [LP]
    exact .inr (rep_back (fun u hu => of_fit p u (by simpa only [signsP] using nd) hu) (h.mono (by simp [firstsP]) (by simp [lastsP]) (by simp [FolP])))
theorem ofR_fit : ∀ (ps : List Pat) (w : List Str), (signsPs ps).Nodup → Fit (firstsRow ps) (lastsRow ps) (FolR ps) w → LR ps w
  | [], w, nd, ⟨⟨a, r, _, ha⟩, _, _⟩ => by simp [firstsRow] at ha
  | p :: ps, w, nd, ⟨⟨a, r, e, ha⟩, l, h⟩ => by
    simp only [signsPs] at nd
    subst e
    obtain ⟨c1, c2⟩ := row_cut p ps nd r a h l
    have n1 := (List.nodup_append.mp nd).1
    have n2 := (List.nodup_append.mp nd).2.1
    simp only [firstsRow, List.mem_append] at ha
    simp only [LR]
    rcases ha with ha | ha
    · obtain ⟨u, v, e1, e2, e3, e5⟩ := c1 (firsts_sub p ha)
      refine ⟨a :: u, v, e1, of_fit p _ n1 ⟨⟨a, u, rfl, ha⟩, e3, e2⟩, ?_⟩
      rcases e5 with ⟨rfl, e5⟩ | e5
      · exact (bareR_iff ps).mp e5
      · exact ofR_fit ps v n2 e5
    · by_cases c : bareP p = true
      · rw [if_pos c] at ha
        obtain ⟨e1, e2⟩ := c2 (firsts_subR ps ha)
        exact ⟨[], a :: r, rfl, (bare_iff p).mp c, ofR_fit ps _ n2 ⟨⟨a, r, rfl, ha⟩, e2, e1⟩⟩
      · rw [if_neg c] at ha; cases ha
theorem ofA_fit : ∀ (ps : List Pat) (w : List Str), (signsPs ps).Nodup → Fit (firstsAny ps) (lastsAny ps) (FolA ps) w → LA ps w
  | [], w, nd, ⟨⟨a, r, _, ha⟩, _, _⟩ => by simp [firstsAny] at ha
  | p :: ps, w, nd, ⟨⟨a, r, e, ha⟩, l, h⟩ => by
    simp only [signsPs] at nd
    subst e
    obtain ⟨c1, c2⟩ := any_cut p ps nd r a h l
    have n1 := (List.nodup_append.mp nd).1
    have n2 := (List.nodup_append.mp nd).2.1
    simp only [firstsAny, List.mem_append] at ha
    simp only [LA]
    rcases ha with ha | ha
    · obtain ⟨e1, e2⟩ := c1 (firsts_sub p ha)
      exact .inl (of_fit p _ n1 ⟨⟨a, r, rfl, ha⟩, e2, e1⟩)
    · obtain ⟨e1, e2⟩ := c2 (firsts_subA ps ha)
      exact .inr (ofA_fit ps _ n2 ⟨⟨a, r, rfl, ha⟩, e2, e1⟩)
end
/-- step by step, just where the pattern tells -/
theorem fit_iff (p : Pat) (w : List Str) (nd : (signsP p).Nodup) : LP p w ↔ (w = [] ∧ bareP p = true) ∨ Fit (firstsP p) (lastsP p) (FolP p) w := by
  constructor
  · intro h
    rcases fit_of p w h with rfl | k
    · exact .inl ⟨rfl, (bare_iff p).mpr h⟩
    · exact .inr k
  · rintro (⟨rfl, h⟩ | h)
    · exact (bare_iff p).mp h
    · exact of_fit p w nd h
end Dv
namespace Dv
open PySem PySem.Spec L2
theorem eqvAll_strs : ∀ a b : List Str, PyData.eqvAll (a.map PyData.str) (b.map PyData.str) = decide (a = b)
  | [], [] => by simp [PyData.eqvAll]
  | [], _ :: _ => by simp [PyData.eqvAll]
  | _ :: _, [] => by simp [PyData.eqvAll]
  | x :: a, y :: b => by
    have ih := eqvAll_strs a b
    rw [List.map_cons, List.map_cons, PyData.eqvAll, ih]
    show ((x == y) && _) = _
    by_cases h : x = y
    · subst h
      by_cases k : a = b
      · simp [k]
      · simp [k]
    · simp [h]
theorem eq_strs2 (a b : List Str) (ha : ∀ s ∈ a, PyData.strOk s = true) (hb : ∀ s ∈ b, PyData.strOk s = true) : eqD (.lst (a.map D.str)) (.lst (b.map D.str)) = some (decide (a = b)) := by
  show eqP _ _ = _
  unfold eqP
  rw [toP_lst, toP_lst, toPs_strs, toPs_strs]
  have l1 := lay_strs a ha
  have l2 := lay_strs b hb
  have d1 := dep_strs a
  show (if (PyData.canLay0 (.list (a.map PyData.str)) && PyData.canLay0 (.list (b.map PyData.str)) && decide ((PyData.list (a.map PyData.str)).depth ≤ 200)) = true then some (PyData.eqv (.list (a.map PyData.str)) (.list (b.map PyData.str))) else none) = _
  have d2 : (PyData.list (a.map PyData.str)).depth ≤ 200 := by simp only [PyData.depth]; omega
  rw [if_pos (by simp [PyData.canLay0, l1, l2, d2])]
  show some (PyData.eqvAll _ _) = _
  rw [eqvAll_strs]
/-! whole numbers -/
def nats (es : List Nat) : List D := es.map fun i : Nat => D.int (i : Int)
theorem nats_fls (es : List Nat) : fls (nats es) = some (es.map fun i : Nat => V.int (i : Int)) := by
  unfold fls nats
  induction es with
  | nil => rfl
  | cons x l ih => rw [List.map_cons, List.mapM_cons, ih]; rfl
theorem nats_in (i : Nat) (es : List Nat) : inD (.int (i : Int)) (.lst (nats es)) = some (decide (i ∈ es)) := by
  show (inFl _ _).or _ = _
  have h : inFl (.int (i : Int)) (nats es) = some (decide (i ∈ es)) := by
    unfold inFl
    rw [nats_fls]
    show some (inV (V.int (i : Int)) (es.map fun i : Nat => V.int (i : Int))) = _
    congr 1
    induction es with
    | nil => rfl
    | cons t ss ih =>
      unfold inV at ih ⊢
      rw [List.map_cons, List.any_cons, ih]
      show (((t : Int) == (i : Int)) || _) = _
      by_cases c : i = t
      · subst c; simp
      · have : ¬ (t : Int) = (i : Int) := fun z => c (by omega)
        simp [c, this]
  rw [h]
  rfl
theorem nats_nil (es : List Nat) : eqD (.lst (nats es)) (.lst []) = some (decide (es = [])) := by
  have := eq_ints_nil' (es.map fun i : Nat => (i : Int))
  rw [List.map_map] at this
  have e : (es.map (D.int ∘ fun i : Nat => (i : Int))) = nats es := rfl
  rw [e] at this
  rw [this]
  cases es <;> simp
theorem nats_app (a b : List Nat) : nats a ++ nats b = nats (a ++ b) := by simp [nats]
theorem nats_len (a : List Nat) : (nats a).length = a.length := by simp [nats]
theorem nodup_len : ∀ (n : Nat) (l : List Nat), l.Nodup → (∀ x ∈ l, x < n) → l.length ≤ n
  | 0, l, _, h => by
    cases l with
    | nil => exact Nat.le_refl _
    | cons x l => exact absurd (h x List.mem_cons_self) (Nat.not_lt_zero _)
  | n + 1, l, nd, h => by
    have := nodup_len n (l.erase n) (nd.erase n) fun x hx => by
      have h1 := h x (List.mem_of_mem_erase hx)
      have h2 : x ≠ n := fun e => by
        rw [nd.mem_erase_iff] at hx
        exact hx.1 e
      omega
    by_cases c : n ∈ l
    · rw [List.length_erase_of_mem c] at this
      omega
    · rw [List.erase_of_not_mem c] at this
      omega
theorem comp_filter {tb : D → Env → Option (Option D × Env)} {Γ : Env} (f : Nat → Bool) (g : Nat → D) : ∀ (es : List Nat), (∀ i ∈ es, tb (.int (i : Int)) Γ = some (if f i then some (g i) else none, Γ)) → compL tb (nats es) Γ = some ((es.filter f).map g, Γ)
  | [], _ => rfl
  | i :: es, h => by
    have ih := comp_filter f g es fun j hj => h j (List.mem_cons_of_mem _ hj)
    show (tb (.int (i : Int)) Γ).bind _ = _
    rw [h i List.mem_cons_self]
    show (compL tb (nats es) Γ).map _ = _
    rw [ih, List.filter_cons]
    cases f i <;> rfl
/-! ### the places to which a part leads -/
def Seg (w : List Str) (i j : Nat) (X : List Str → Prop) : Prop := ∃ a u b, w = a ++ (u ++ b) ∧ a.length = i ∧ j = i + u.length ∧ X u
theorem Seg.le {w : List Str} {i j : Nat} {X : List Str → Prop} (h : Seg w i j X) : i ≤ j ∧ j ≤ w.length := by
  obtain ⟨a, u, b, e, h1, h2, _⟩ := h
  have := congrArg List.length e
  simp at this
  omega
theorem Seg.imp {w : List Str} {i j : Nat} {X Y : List Str → Prop} (h : Seg w i j X) (k : ∀ u, X u → Y u) : Seg w i j Y := by
  obtain ⟨a, u, b, e, h1, h2, h3⟩ := h
  exact ⟨a, u, b, e, h1, h2, k u h3⟩
theorem seg_nil {w : List Str} {i j : Nat} : Seg w i j (fun u => u = []) ↔ i = j ∧ i ≤ w.length := by
  constructor
  · rintro ⟨a, u, b, e, h1, h2, rfl⟩
    have := congrArg List.length e
    simp at this
    exact ⟨by simpa using h2.symm, by omega⟩
  · rintro ⟨rfl, h⟩
    exact ⟨w.take i, [], w.drop i, by simp, by rw [List.length_take]; omega, rfl, rfl⟩
theorem Seg.trans {w : List Str} {i k j : Nat} {X Y : List Str → Prop} (h : Seg w i k X) (h' : Seg w k j Y) : Seg w i j (fun t => ∃ u v, t = u ++ v ∧ X u ∧ Y v) := by
  obtain ⟨a, u, b, e, h1, h2, h3⟩ := h
  obtain ⟨a', v, b', e', h1', h2', h3'⟩ := h'
  have ea : a' = a ++ u ∧ v ++ b' = b := by
    refine List.append_inj ?_ (by rw [List.length_append]; omega)
    rw [← e', e, List.append_assoc]
  obtain ⟨rfl, rfl⟩ := ea
  exact ⟨a, u ++ v, b', by rw [e]; simp, h1, by rw [List.length_append]; omega, u, v, rfl, h3, h3'⟩
theorem Seg.cut {w : List Str} {i j : Nat} {X Y : List Str → Prop} (h : Seg w i j (fun t => ∃ u v, t = u ++ v ∧ X u ∧ Y v)) : ∃ k, Seg w i k X ∧ Seg w k j Y := by
  obtain ⟨a, t, b, e, h1, h2, u, v, rfl, h3, h4⟩ := h
  rw [List.length_append] at h2
  exact ⟨i + u.length, ⟨a, u, v ++ b, by rw [e]; simp, h1, rfl, h3⟩, ⟨a ++ u, v, b, by rw [e]; simp, by rw [List.length_append, h1], by omega, h4⟩⟩
theorem seg_all {w : List Str} {X : List Str → Prop} : Seg w 0 w.length X ↔ X w := by
  constructor
  · rintro ⟨a, u, b, e, h1, h2, h3⟩
    have ea : a = [] := List.length_eq_zero_iff.mp h1
    subst ea
    have := congrArg List.length e
    simp at this
    have eb : b = [] := List.length_eq_zero_iff.mp (by omega)
    subst eb
    simp at e
    rw [e]; exact h3
  · exact fun h => ⟨[], w, [], by simp, rfl, by simp, h⟩
theorem seg_one {w : List Str} {i j : Nat} {s : Str} : Seg w i j (fun u => u = [s]) ↔ j = i + 1 ∧ (w.drop i).take 1 = [s] := by
  constructor
  · rintro ⟨a, u, b, rfl, rfl, h2, rfl⟩
    exact ⟨h2, by simp⟩
  · rintro ⟨rfl, h⟩
    have hd : w.drop i = s :: w.drop (i + 1) := by
      cases c : w.drop i with
      | nil => rw [c] at h; simp at h
      | cons x r =>
        rw [c] at h
        simp at h
        subst h
        rw [← List.drop_drop, c]
        rfl
    have hi : i < w.length := Nat.lt_of_not_le fun z => by rw [List.drop_of_length_le z] at hd; cases hd
    exact ⟨w.take i, [s], w.drop (i + 1), by rw [List.singleton_append, ← hd, List.take_append_drop], by rw [List.length_take]; omega, rfl, rfl⟩
theorem rep_snoc {X : List Str → Prop} {u v : List Str} (h : Rep' X u) (k : X v) : Rep' X (u ++ v) := by
  induction h with
  | one h => exact .more h (.one k)
  | @more a b h _ ih => rw [List.append_assoc]; exact .more h ih
theorem seg_rep_step {w : List Str} {i k j : Nat} {X : List Str → Prop} (h : Seg w i k (Rep' X)) (h' : Seg w k j X) : Seg w i j (Rep' X) := by
  refine (h.trans h').imp ?_
  rintro t ⟨u, v, rfl, h1, h2⟩
  exact rep_snoc h1 h2
/-- what holds the first ends and is closed holds all -/
theorem seg_rep_in {w : List Str} {X : List Str → Prop} (F : Nat → Prop) (hF : ∀ i j, F i → Seg w i j X → F j) {u : List Str} (h : Rep' X u) : ∀ (a b : List Str) (i : Nat), w = a ++ (u ++ b) → a.length = i → (∀ j, Seg w i j X → F j) → F (i + u.length) := by
  induction h with
  | @one u h => exact fun a b i e ea hi => hi _ ⟨a, u, b, e, ea, rfl, h⟩
  | @more u v h _ ih =>
    intro a b i e ea hi
    have fk : F (i + u.length) := hi _ ⟨a, u, v ++ b, by rw [e]; simp, ea, rfl, h⟩
    have := ih (a ++ u) b (i + u.length) (by rw [e]; simp) (by rw [List.length_append, ea]) fun j hj => hF _ _ fk hj
    rw [List.length_append]
    rw [Nat.add_assoc] at this
    exact this
theorem seg_rep_min {w : List Str} {i j : Nat} {X : List Str → Prop} (F : Nat → Prop) (hF : ∀ i j, F i → Seg w i j X → F j) (hi : ∀ j, Seg w i j X → F j) (h : Seg w i j (Rep' X)) : F j := by
  obtain ⟨a, u, b, e, h1, rfl, h3⟩ := h
  exact seg_rep_in F hF h3 a b i e h1 hi
end Dv
namespace Dv
open PySem PySem.Spec L2
/-! ### what firsts, lasts and nexts told, spoilt -/
abbrev uTold (i o s : Nat) (w : Str) : S := .seq (.ex (.mutE .append (.idx (.var i) (.cst (.int 0))) (.cons (.cst (.str w)) .nil))) (.seq (.ex (.mutE .clear (.idx (.var i) (.cst (.int 1))) .nil)) (.for_ (.itL (.var o)) [s] (.ex (.mutE .append (.idx (.idx (.var i) (.cst (.int 2))) (.var s)) (.cons (.cst (.str w)) .nil)))))
def isS : D → Bool
  | .str _ => true
  | _ => false
def nwS : D → Bool
  | .nw (.lst l) => l.all isS && decide (l.length ≤ 100000)
  | _ => false
def keyIn (ks : List Key) (ds : List D) : D → Bool
  | .str x => (valD ks ds (.inr x)).isSome
  | _ => false
def oldL : Option (D × Bool) → Bool
  | some (.lst _, false) => true
  | some (.nw (.lst _), false) => true
  | _ => false
def spTold (ws : List Nat) (Γ0 Γ : Env) (i o s : Nat) : Bool := decide (s ∈ ws ∧ o ∉ ws ∧ i ≠ s ∧ o ≠ s ∧ s < Γ.length) && oldL (Γ0.at o) && match Γ.at o, Γ.at i with
  | some (.lst os, false), some (.nw (.lst [d1, d2, .nw (.dct ks ds)]), false) => nwS d1 && nwS d2 && ds.all nwS && os.all (keyIn ks ds) && decide (os.length ≤ 100000)
  | _, _ => false
theorem spTold_ok {ws : List Nat} {Γ0 Γ : Env} {i o s : Nat} (h : spTold ws Γ0 Γ i o s = true) : (s ∈ ws ∧ o ∉ ws ∧ i ≠ s ∧ o ≠ s ∧ s < Γ.length) ∧ (∃ d l, Γ0.at o = some (d, false) ∧ d.un = .lst l) ∧ ∃ os d1 d2 ks ds, Γ.at o = some (.lst os, false) ∧ Γ.at i = some (.nw (.lst [d1, d2, .nw (.dct ks ds)]), false) ∧
    nwS d1 = true ∧ nwS d2 = true ∧ ds.all nwS = true ∧ os.all (keyIn ks ds) = true ∧ os.length ≤ 100000 := by
  unfold spTold at h
  rw [Bool.and_eq_true, Bool.and_eq_true] at h
  obtain ⟨⟨h1, h2⟩, h3⟩ := h
  refine ⟨of_decide_eq_true h1, ?_, ?_⟩
  · unfold oldL at h2
    split at h2
    · rename_i l e; exact ⟨_, l, e, rfl⟩
    · rename_i l e; exact ⟨_, l, e, rfl⟩
    · cases h2
  · split at h3
    · rename_i os d1 d2 ks ds e1 e2
      simp only [Bool.and_eq_true, decide_eq_true_eq] at h3
      exact ⟨os, d1, d2, ks, ds, e1, e2, h3.1.1.1.1, h3.1.1.1.2, h3.1.1.2, h3.1.2, h3.2⟩
    · cases h3
section
variable {c0 : Ct0} {Φ : Pm} {cl : Ct}
/-- a new list of texts -/
def NwAt (cl : Ct) (M : Hp) (p : Addr) : Prop := cl.N p ∧ ∃ l : List V, M p = some (.lst l) ∧ (∀ v ∈ l, ∃ s, v = V.str s) ∧ l.length ≤ 100000
theorem reps_strs' {M : Hp} : ∀ {l : List D} {vs : List V}, Reps cl M l vs → l.all isS = true → ∀ v ∈ vs, ∃ s, v = V.str s
  | [], vs, r, _, v, hv => by cases r; cases hv
  | d :: l, _, ⟨u, us, rfl, a, b⟩, h, v, hv => by
    simp only [List.all_cons, Bool.and_eq_true] at h
    rcases List.mem_cons.mp hv with rfl | hv
    · cases d <;> simp [isS] at h
      exact ⟨_, a⟩
    · exact reps_strs' b h.2 v hv
theorem nwS_ok {M : Hp} {d : D} {v : V} (h : nwS d = true) (r : Rep cl M d v) : ∃ p, v = .ref p ∧ NwAt cl M p := by
  unfold nwS at h
  split at h
  · rename_i l
    simp only [Bool.and_eq_true, decide_eq_true_eq] at h
    obtain ⟨⟨p, vs, rfl, m, rr⟩, p', e, n⟩ := r
    cases e
    exact ⟨p, rfl, n, vs, m, reps_strs' rr h.1, by rw [← rr.length]; exact h.2⟩
  · cases h
/-- c texts more at most -/
structure Sp3 (cl : Ct) (M H : Hp) (a t : Addr) (us : List V) (kvs : List (Key × V)) (c : Nat) (H' : Hp) : Prop where
  k1 : ∀ b o, H b = some o → ¬ cl.N b → H' b = some o
  k2 : ∀ b, H b ≠ none → H' b ≠ none
  k3 : H' a = some (.lst us)
  k4 : Rd H' t (.dK kvs)
  k5 : ∀ p, NwAt cl M p → ∃ l', H' p = some (.lst l') ∧ l'.length ≤ 100000 + c
theorem Sp3.put {M H H' : Hp} {a t p : Addr} {us l : List V} {kvs : List (Key × V)} {c : Nat} (g : Sp3 cl M H a t us kvs c H') (hp : NwAt cl M p) (ha : M a = some (.lst us)) (hus : ∃ q, V.ref q ∈ us) (ht : Rd M t (.dK kvs)) (hl : l.length ≤ 100000 + (c + 1)) : Sp3 cl M H a t us kvs (c + 1) (upd H' p (.lst l)) := by
  obtain ⟨n, l0, m, hs, _⟩ := hp
  have na : a ≠ p := fun z => by
    rw [← z, ha] at m
    cases m
    obtain ⟨q, hq⟩ := hus
    obtain ⟨s, e⟩ := hs _ hq
    cases e
  have nt : t ≠ p := fun z => by
    rw [← z] at m
    rcases ht with ht | ⟨o, ht⟩
    · rw [ht] at m; cases m
    · rw [ht] at m; cases m
  refine ⟨fun b o h nb => ?_, fun b h => ?_, by rw [upd_ne na]; exact g.k3, ?_, fun q hq => ?_⟩
  · rw [upd_ne fun z => nb (by rw [z]; exact n)]
    exact g.k1 b o h nb
  · by_cases z : b = p
    · rw [z, upd_same]; exact fun z => nomatch z
    · rw [upd_ne z]; exact g.k2 b h
  · rcases g.k4 with h | ⟨o, h⟩
    · exact .inl (by rw [upd_ne nt]; exact h)
    · exact .inr ⟨o, by rw [upd_ne nt]; exact h⟩
  · by_cases z : q = p
    · rw [z, upd_same]; exact ⟨l, rfl, hl⟩
    · obtain ⟨l', e, hl'⟩ := g.k5 q hq
      rw [upd_ne z]
      exact ⟨l', e, by omega⟩
theorem valD_mem : ∀ {ks : List Key} {ds : List D} {k : Key} {d : D}, valD ks ds k = some d → d ∈ ds
  | [], ds, k, d, h => by cases ds <;> cases h
  | _ :: _, [], k, d, h => by cases h
  | j :: ks, x :: ds, k, d, h => by
    have h' : (if j = k then some x else valD ks ds k) = some d := h
    by_cases c : j = k
    · rw [if_pos c] at h'; cases h'; exact List.mem_cons_self
    · rw [if_neg c] at h'; exact List.mem_cons_of_mem _ (valD_mem h')
theorem spo_told {i o s : Nat} {w : Str} {ws : List Nat} {Γ0 Γ : Env} (h : spTold ws Γ0 Γ i o s = true) : SpoOk c0 ws (trS c0.K Φ (uTold i o s w)) Γ0 Γ := by
  obtain ⟨⟨ws1, wo, nis, nos, ls⟩, ⟨d0, l0, e0, eu⟩, os, d1, d2, ks, ds, eo, ei, n1, n2, nd, nk, lo⟩ := spTold_ok h
  intro cl σ M H hc ok hold D q
  subst hc
  obtain ⟨vi, si, ri⟩ := ok.slot i _ _ ei
  obtain ⟨vo, so, ro⟩ := ok.slot o _ _ eo
  have ri : Rep cl M (.nw (.lst [d1, d2, .nw (.dct ks ds)])) vi := ri
  have ro : Rep cl M (.lst os) vo := ro
  obtain ⟨⟨a, us, rfl, ma, ru⟩, a', ea, hna⟩ := ri
  obtain ⟨b, xs, rfl, mb, rx⟩ := ro
  obtain ⟨b', so', nb⟩ := hold o _ l0 wo e0 eu
  rw [so] at so'
  cases so'
  obtain ⟨v1, _, rfl, r1, ru⟩ := ru
  obtain ⟨v2, _, rfl, r2, ru⟩ := ru
  obtain ⟨v3, _, rfl, r3, ru⟩ := ru
  cases ru
  obtain ⟨p1, rfl, h1⟩ := nwS_ok n1 r1
  obtain ⟨p2, rfl, h2⟩ := nwS_ok n2 r2
  obtain ⟨⟨t, kvs, rfl, mt, rk, rd⟩, _⟩ := r3
  have hb : H b = some (.lst xs) := ok.sub b _ mb
  have hus : ∃ q, V.ref q ∈ [V.ref p1, V.ref p2, V.ref t] := ⟨p1, List.mem_cons_self⟩
  have sz : 300000 < sizeLine := by decide
  have lx : xs.length ≤ 100000 := by rw [← rx.length]; exact lo
  have g0 : Sp3 cl M H a t [V.ref p1, V.ref p2, V.ref t] kvs 0 H := ⟨fun _ _ h _ => h, fun _ h => h, ok.sub a _ ma, mt.imp (ok.sub _ _) fun ⟨o, e⟩ => ⟨o, ok.sub _ _ e⟩, fun p ⟨_, l, m, _, hl⟩ => ⟨l, ok.sub p _ m, by omega⟩⟩
  -- the first one grows
  refine ⟨V.ref a, si, .inl (.inl ⟨a, _, 0, V.ref p1, rfl, rfl, SqL.of g0.k3, rfl, ?_⟩)⟩
  obtain ⟨l1, e1, le1⟩ := g0.k5 p1 h1
  refine ⟨.inl ⟨rfl, _, SqL.of e1⟩, p1, l1, .str w, rfl, rfl, e1, by omega, ?_⟩
  have g1 := g0.put (l := l1 ++ [V.str w]) h1 ma hus mt (by rw [List.length_append, List.length_singleton]; omega)
  -- the second one is emptied
  refine ⟨V.ref a, si, .inl (.inl ⟨a, _, 1, V.ref p2, rfl, rfl, SqL.of g1.k3, rfl, ?_⟩)⟩
  obtain ⟨l2, e2, le2⟩ := g1.k5 p2 h2
  refine ⟨.inl ⟨rfl, _, SqL.of e2⟩, p2, l2, rfl, rfl, e2, ?_⟩
  have g2 := g1.put (l := []) h2 ma hus mt (by simp)
  -- each sign's list grows
  let Inv : Nat → Nat → St → Hp → Prop := fun z m σ' H' => (σ'.length = σ.length ∧ ∀ j, j ∉ ws → σ'[j]? = σ[j]?) ∧ σ'[i]? = some (some (V.ref a)) ∧ Sp3 cl M H a t [V.ref p1, V.ref p2, V.ref t] kvs (2 + z) H' ∧ m = xs.length - z ∧ z ≤ xs.length
  have hb2 : ∀ c H', Sp3 cl M H a t [V.ref p1, V.ref p2, V.ref t] kvs c H' → H' b = some (.lst xs) := fun c H' g => g.k1 b _ hb nb
  refine ⟨V.ref b, so, b, rfl, ⟨_, SqL.of (hb2 _ _ g2)⟩, Inv, ⟨_, ⟨rfl, fun _ _ => rfl⟩, si, g2, rfl, Nat.zero_le _⟩, ?_⟩
  rintro z m σ' H' ⟨⟨sl1, sl2⟩, sia, gz, rfl, hz⟩
  have hbz := hb2 _ _ gz
  by_cases hlt : z < xs.length
  · obtain ⟨x, hx⟩ : ∃ x, xs[z]? = some x := ⟨_, List.getElem?_eq_getElem (by omega)⟩
    refine .inr ⟨⟨_, x, SqL.of hbz, hx⟩, fun σ2 H2 => Inv (z + 1) (xs.length - (z + 1)) σ2 H2, fun σ2 H2 h => ⟨_, by omega, h⟩, ?_⟩
    rintro x' H2 ⟨rfl, hy⟩
    have := hy _ (SqL.of hbz)
    rw [hx] at this
    cases this
    obtain ⟨dx, hdx⟩ : ∃ dx, os[z]? = some dx := ⟨_, List.getElem?_eq_getElem (by rw [rx.length]; omega)⟩
    obtain ⟨x', ex, rx'⟩ := rx.get hdx
    rw [hx] at ex
    cases ex
    have kin := List.all_eq_true.mp nk dx (List.mem_of_getElem? hdx)
    cases dx <;> try (cases kin; done)
    rename_i y
    cases rx'
    obtain ⟨dv, hdv⟩ := Option.isSome_iff_exists.mp (show (valD ks ds (.inr y)).isSome = true from kin)
    subst rk
    obtain ⟨v, hv, rv⟩ := valD_some rd hdv
    have nv : nwS dv = true := List.all_eq_true.mp nd dv (valD_mem hdv)
    obtain ⟨p, rfl, hp⟩ := nwS_ok nv rv
    obtain ⟨l, el, le⟩ := gz.k5 p hp
    have sj : (σ'.set s (some (V.str y)))[i]? = some (some (V.ref a)) := by rw [List.getElem?_set_ne (Ne.symm nis)]; exact sia
    have ss : (σ'.set s (some (V.str y)))[s]? = some (some (V.str y)) := List.getElem?_set_self (by rw [sl1, ← ok.len]; exact ls)
    refine ⟨V.ref a, sj, .inl (.inl ⟨a, _, 2, V.ref t, rfl, rfl, SqL.of gz.k3, rfl, V.str y, ss, .inr ⟨t, V.ref p, rfl, by have := dget_r (k := Sum.inr y) gz.k4; rw [hv] at this; exact this, ?_⟩⟩)⟩
    refine ⟨.inl ⟨rfl, _, SqL.of el⟩, p, l, .str w, rfl, rfl, el, by omega, ?_⟩
    have g3 := gz.put (l := l ++ [V.str w]) hp ma hus mt (by rw [List.length_append, List.length_singleton]; omega)
    refine ⟨⟨by rw [List.length_set]; exact sl1, fun j hj => ?_⟩, sj, g3, rfl, by omega⟩
    rw [List.getElem?_set_ne fun z => hj (by rw [← z]; exact ws1)]
    exact sl2 j hj
  · refine .inl ⟨⟨xs, SqL.of hbz, by omega⟩, ?_⟩
    exact q σ' H' gz.k1 gz.k2 sl2 sl1
end
end Dv
namespace Dv
open PySem PySem.Spec PyProof.Rows L2
/-! ### a caught exception that outlives its clause -/
/-- at a: an exception of the class cls, its dict (none | at d) -/
def exk (a : Addr) (cls : Value) (d : Option Addr) : HO := .ext fun h => ∃ (oe : Obj) (vs : Array Value), h.get? a = some oe ∧ oe.cls = cls ∧ oe.dict = d ∧ oe.data = .fields vs
theorem exk_ok {P : Program} {w : World} {H : Hp} {h : Heap} {a : Addr} {oe : Obj} {vs : Array Value} (he : h.get? a = some oe) (hd : oe.data = .fields vs) : ObjOk P w H h a (exk a oe.cls oe.dict) :=
  ⟨⟨oe, vs, he, rfl, rfl, hd⟩, ⟨oe, he⟩, fun h1 h2 ⟨o, us, q, r⟩ k => ⟨o, us, k _ q, r⟩⟩
theorem exk_at {P : Program} {w : World} {H : Hp} {h : Heap} {a : Addr} {cls : Value} {d : Option Addr} (hok : HOk P w H h) (he : H a = some (exk a cls d)) : ∃ (oe : Obj) (vs : Array Value), h.get? a = some oe ∧ oe.cls = cls ∧ oe.dict = d ∧ oe.data = .fields vs := by
  have x : ObjOk P w H h a (.ext fun h => ∃ (oe : Obj) (vs : Array Value), h.get? a = some oe ∧ oe.cls = cls ∧ oe.dict = d ∧ oe.data = .fields vs) := hok a _ he
  exact x.1
section
variable {X : Cx} {pins : List (Addr × Obj)} {σ : L2.St} {H : Hp} {s : Shared} {a : Addr} {oe : Obj} {vs : Array Value}
theorem keepE (I : Inv X pins σ H s) (he : s.heap.get? a = some oe) (hd : oe.data = .fields vs) (na : H a = none) (nL : a ≠ X.env.locals) (nb : ∀ b o, X.s_0.heap.get? b = some o → b ∉ X.ex → b ≠ a) (np : ∀ p ∈ X.pn ++ pins, p.1 ≠ a) :
    Inv X pins σ (upd H a (exk a oe.cls oe.dict)) s :=
  ⟨I.ok, I.os, I.bare, ⟨I.base.keep, I.base.slot, fun b o e n hx => by rw [upd_ne (nb b o e hx)]; exact I.base.free b o e n hx, I.base.there, fun b xs e => by rw [upd_ne (ne_of_none (I.base.tups b xs e) na)]; exact I.base.tups b xs e,
      fun b o u e => by rw [upd_ne (ne_of_none (I.base.frzs b o u e) na)]; exact I.base.frzs b o u e, fun b ps e => by
        obtain ⟨more, q⟩ := I.base.tbls b ps e
        exact ⟨more, by rw [upd_ne (ne_of_none q na)]; exact q⟩⟩,
    I.loc, I.cell, by rw [upd_ne (Ne.symm nL)]; exact I.free, fun x c e => by
      have nc : c ≠ a := fun z => by
        obtain ⟨v, o, h1, h2⟩ := I.cell x c e
        rw [z, he] at h1
        cases h1
        rw [hd] at h2
        cases h2
      rw [upd_ne nc]
      exact I.freeC x c e, fun p hp => by
      obtain ⟨q1, q2, q3, q4, q5⟩ := I.pin p hp
      exact ⟨q1, by rw [upd_ne (np p hp)]; exact q2, q3, q4, q5⟩, fun b o e => by
      by_cases hb : b = a
      · subst hb
        rw [upd_same] at e
        cases e
        exact exk_ok he hd
      · rw [upd_ne hb] at e
        exact (I.hok b o e).stay (fun c v _ z => z) (fun c hc => by rw [upd_ne (ne_of_none hc na)]; exact hc) fun c xs hc => by rw [upd_ne (ne_of_none hc na)]; exact hc, I.len⟩
end
/-- try: body, except c as n: suite (a statement that looks at n) -/
def tKeep (K : PySem.W.Frag) (len : Nat) (c : Value) (i : Nat) (tb : XK → TS) (ts : TS) : TS := fun D σ H =>
  tb (fun cls d H' => PySem.W.exmOne K cls c = some true ∧ ∀ (σ' : L2.St) (a : Addr), σ'.length = len → H' a = none → ts { nx := fun σ2 H2 => D.nx (σ2.set i none) (upd H2 a (exk a cls d)), rt := fun _ _ => False } (σ'.set i (some (.ref a))) H') D σ H
section
variable {X : Cx} {x n : Str} {c : Value} {i : Nat} {body suite : List Stmt} {b₀ : Stmt} {np pos pos' : Pos} {tb : XK → TS} {ts : TS}
theorem ps_keep (hs : X.stack = X.env :: X.outer) (hf : X.env.frame = some X.env.locals) (hN : X.N.Nodup) (hi : X.N[i]? = some n) (hln : X.env.kindOf n = some .local) (hc : Names X x c)
    (hb : ∀ (E : XK) (pn : List (Addr × Obj)) (xe : Value → Shared → Prop), Takes (X.tr pn xe) (fun cls d _ H => E cls d H) → PassesOwn (model X.prog X.w) X.A X.env xe → PSs (X.tr pn xe) body (tb E))
    (hsu : ∀ (a : Addr) (pn : List (Addr × Obj)), PSs (X.suite a pn) (b₀ :: suite) ts) :
    PS X (.Try body [.ExceptHandler (some (.Name x np)) (some n) (b₀ :: suite) pos'] [] [] pos) (tKeep X.K X.N.length c i tb ts) := by
  refine ⟨fun pins s σ H D I h => ?_⟩
  have ok := I.ok
  have hfr : X.A.frames = some (X.env :: X.outer) := by rw [ok.frames, hs]
  have hloc : Loc X.env.scope n := .inl hln
  refine wpAny_Try_except ?_
  refine wpAny_mono ((hb (fun cls d H' => PySem.W.exmOne X.K cls c = some true ∧ ∀ (σ' : L2.St) (a : Addr), σ'.length = X.N.length → H' a = none → ts { nx := fun σ2 H2 => D.nx (σ2.set i none) (upd H2 a (exk a cls d)), rt := fun _ _ => False } (σ'.set i (some (.ref a))) H')
    (X.pn ++ pins) (fun e s₁ => wpAny (model X.prog X.w) X.A (noteFrame e X.env) (fun _ s₂ => wpAny (model X.prog X.w) X.A (setFlight e none) (fun _ s₃ =>
    wpAny (model X.prog X.w) X.A (handleBy e X.env [.ExceptHandler (some (.Name x np)) (some n) (b₀ :: suite) pos']) (SP X pins D) X.xe s₃) X.xe s₂) X.xe s₁) (fun u s' xx => ?_) PassesOwn.looking).run [] s σ H D (I.toTry _) h) (fun f s1 hsp => ?_) (fun e s1 he => he)
  · -- the catch
    obtain ⟨a, B, sI, pins', σ', H', cls, d, rfl, J', nb, up, sky, na, os, ag, hb1, hyes⟩ := xx
    have J : Inv X pins σ' H' sI := J'.ofTry ok
    have sky' : Sky B (X.env :: X.outer) a (Zc cls d) X.env.locals s'.heap := by rw [← hs]; exact sky
    show wpAny (model X.prog X.w) X.A (noteFrame (.ref a) X.env) _ _ _
    refine Sky.land Zc.steady hfr hf sky' fun h3 fl3 up3 => ?_
    have J3 : Inv X pins σ' H' { s' with heap := h3 } := J.landed nb fl3.1 (up.trans up3) os ag
    obtain ⟨oe3, vs3, he3, hz3, hd3⟩ := fl3.there
    have notFr : ∀ {h : Heap} {o : Obj} {vs : Array Value}, h.FunFrames B (X.env :: X.outer) → h.get? a = some o → o.data = .fields vs → a ∉ frs (X.env :: X.outer) := fun {h o vs} ff e dd hm => by
      obtain ⟨_, o', e', hnf⟩ := ff.mem hm
      rw [e] at e'; cases e'
      exact hnf _ dd
    have nfr := notFr fl3.2.2.1 he3 hd3
    have nL : a ≠ X.env.locals := fun z => nfr (List.mem_filterMap.mpr ⟨X.env, List.mem_cons_self, by rw [hf, z]⟩)
    have nF : a ∉ X.fs := fun hm => by
      obtain ⟨e, he, q⟩ := List.mem_filterMap.mp hm
      exact nfr (List.mem_filterMap.mpr ⟨e, List.mem_cons_of_mem _ he, q⟩)
    have noI : ∀ o, sI.heap.get? a ≠ some o := fun o q => by
      have z := nb a o q (by rw [hs]; exact nfr)
      rw [fl3.2.1] at z
      cases z
    have nBase : ∀ b o, X.s_0.heap.get? b = some o → b ∉ X.ex → b ≠ a := fun b o e hx z => by
      obtain ⟨o', q⟩ := J.base.there b o e hx
      rw [z] at q
      exact noI _ q
    have nPin : ∀ p ∈ X.pn ++ pins, p.1 ≠ a := fun p hp z => by
      have q := (J.pin p hp).1
      rw [z] at q
      exact noI _ q
    have S3 := J3.suite he3 hd3 na nL nF
    refine wpAny_handleBy_cons (codeAny_handlers_test ?_) (by intro q; cases q)
    have LT : PySem.W.Looks (model X.prog X.w) h3 (typeOf (.ref a)) cls := fun A Q E s k q => wpAny_typeOf_ref (k _ _ he3) (by rw [hz3.1]; exact q)
    have LM := PySem.W.exm_one (M := model X.prog X.w) (J3.kIn) LT hb1
    have test : ∀ {Q : Value → Shared → Prop} {E : Value → Shared → Prop}, Q c { s' with heap := h3 } → wpAny (model X.prog X.w) (X.A.mark (some (.ref a))) (eval (.Name x np) X.env) Q E { s' with heap := h3 } := fun {Q E} q => by
      obtain ⟨hg, hdbg, hm | ⟨hm, hv, hnn⟩⟩ := hc
      · exact ld_glob (X := X.suite a ((a, oe3) :: (X.pn ++ pins))) S3 hg hm q hdbg
      · exact ld_blt (X := X.suite a ((a, oe3) :: (X.pn ++ pins))) S3 hg hm hv q hnn hdbg
    refine test (LM.here ?_)
    refine codeAny_handlers_suite_as ?_
    refine HandSPX.lands_againZ fl3 fun h4 fl4 up4 => ?_
    have J4 : Inv X pins σ' H' { s' with heap := h4 } := J.landed nb fl4.1 ((up.trans up3).trans up4) os ag
    obtain ⟨oe4, vs4, he4, hz4, hd4⟩ := fl4.there
    have S4 := J4.suite he4 hd4 na nL nF
    refine store_ok (X := X.suite a ((a, oe4) :: (X.pn ++ pins))) (v := .ref a) S4 hN hi hloc rfl (fun s5 S5 => ?_) (.inr hln)
    refine wpAny_mono ((hsu a ((a, oe4) :: (X.pn ++ pins))).run [] s5 _ H' _ S5 (hyes σ' a J.len na)) (fun f s6 hsp => ?_) (fun _ _ z => False.elim z)
    cases f with
    | next =>
      obtain ⟨σ6, H6, S6, q6⟩ := hsp
      obtain ⟨g1, g2, _, _, _⟩ := S6.pin (a, oe4) (List.mem_append_left _ List.mem_cons_self)
      have K6 := keepE (S6.unsuite ok) g1 hd4 g2 nL nBase nPin
      rw [hz4.1, hz4.2] at K6
      exact gone_ok K6 hN hi hln fun s7 J7 => ⟨_, _, J7, q6⟩
    | brk =>
      obtain ⟨σ6, H6, S6, q6⟩ := hsp
      exact q6.elim
    | cont =>
      obtain ⟨σ6, H6, S6, q6⟩ := hsp
      exact q6.elim
    | ret u =>
      obtain ⟨v6, σ6, H6, S6, r6, q6⟩ := hsp
      exact q6.elim
  · cases f with
    | next =>
      obtain ⟨σ', H', J', q⟩ := hsp
      exact wpAny_execs_nil ⟨σ', H', J'.ofTry ok, q⟩
    | brk =>
      obtain ⟨σ', H', J', q⟩ := hsp
      exact ⟨σ', H', J'.ofTry ok, q⟩
    | cont =>
      obtain ⟨σ', H', J', q⟩ := hsp
      exact ⟨σ', H', J'.ofTry ok, q⟩
    | ret u =>
      obtain ⟨v, σ', H', J', r, q⟩ := hsp
      exact ⟨v, σ', H', J'.ofTry ok, r, q⟩
end
end Dv
namespace PySem.W
open PySem PySem.Spec PySem.Calls PyProof.Rows
section
variable {prog : Program} {w : World} {A : Around} {E : Value → Shared → Prop} {s : Shared} {K : Frag} {x D : Addr} {ox : Obj} {od : Option Obj}
theorem findObj_dataD {C : Addr} {name : Str} {a g : Value} (hc : (clsIn K C).isSome = true) (ha : findIn K (.ref C) name = some (some a)) (hg : specialIn K a "__get__" = some (some g)) (ht : takesIn K a = some true) : findObj K C od name = some (.bind g a) := by
  obtain ⟨cd, hc⟩ := Option.isSome_iff_exists.mp hc
  unfold findObj
  rw [hc, Option.bind_some, ha, Option.bind_some]
  simp [hg, ht]
theorem kin_classD {Q : Option Value → Shared → Prop} (hga : findIn K (.ref D) "__getattribute__" = some (some (.builtin "BaseException.__getattribute__"))) (hgt : findIn K (.ref D) "__getattr__" = some none) (hsub : subIn K (.ref D) (.type "BaseException") = some true)
    (hdct : hasDictIn K D = true) (ha : findIn K (.ref D) "__class__" = some (some (.builtin "object.__class__")))
    (hn : specialIn K (.builtin "object.__class__") "__get__" = some (some (.builtin "getset_descriptor.__get__"))) (htk : takesIn K (.builtin "object.__class__") = some true) (hm : mroIn K D (.type "object") = some true)
    (X : K.In s.heap) (I : InstAt s.heap x ox D od) (h : Q (some (.ref D)) { s with toks := s.toks + 1 }) : wpAny (model prog w) A (getAttr? (.ref x) "__class__") Q E s := by
  have hf : findObj K D od "__class__" = some (.bind (.builtin "getset_descriptor.__get__") (.builtin "object.__class__")) := findObj_dataD (by obtain ⟨cd, hc, _⟩ := any_some hdct; rw [hc]; rfl) ha hn htk
  obtain ⟨hp, g, d, t, os⟩ := s
  have L0 := I.type (M := model prog w)
  have L1 := looks_findIn (M := model prog w) X hga
  have L2 := looks_findIn (M := model prog w) X hgt
  have L3 := looks_find (M := model prog w) X I hf
  have sub : Looks (model prog w) hp (isInstance (.ref x) (.type "BaseException")) true := L0.andThen (looks_subIn X hsub)
  have hx0 : (false && onTheHeap (Value.builtin "BaseException.__getattribute__")) = false := rfl
  have hx2 : (Value.builtin "BaseException.__getattribute__" == Value.builtin "object.__getattribute__") = false := by decide +kernel
  have hx1 : (onTheHeap (Value.ref D) && Value.builtin "BaseException.__getattribute__" == Value.builtin "object.__getattribute__") = false := by rw [hx2]; rfl
  unfold getAttr? getAttrBy? getAttrBy
  refine wpAny_bind (wpAny_mkText (wpAny_bind (wpAny_attempt (wpAny_holding (wpAny_bind (L0.at (wpAny_bind (L1.at ?_))))))))
  show wpAny _ _ (if (onTheHeap (Value.ref D) && Value.builtin "BaseException.__getattribute__" == Value.builtin "object.__getattribute__") = true then _ else _) _ _ _
  rw [hx1, if_neg Bool.false_ne_true]
  unfold getAttrByItsOwn hookBefore
  refine wpAny_bind ?_
  rw [if_pos (show onTheHeap (Value.ref D) = true from rfl)]
  refine L2.at ?_
  refine wpAny_bind (wpAny_attempt (wpAny_holding ?_))
  unfold callGetattribute
  rw [hx0, if_neg Bool.false_ne_true]
  unfold boundAndCalled
  rw [PySem.F.excAttr_ValueError.ga.bind (.ref x)]
  refine wpAny_bind (wpAny_pure ?_)
  show wpAny _ _ (call (.builtin "BaseException.__getattribute__") [.ref x, .str "__class__" t]) _ _ _
  refine wpAny_call (codeAny_call_builtin PySem.F.excAttr_ValueError.ga.plain PySem.F.entry_bexc_ga ?_)
  refine @check_slot (model prog w) _ _ ⟨hp, g, d, t + 1, os⟩ "BaseException.__getattribute__" "BaseException" "__getattribute__" (.ref x) [.str "__class__" t] [] _ (by decide +kernel) (by decide +kernel) sub (PySem.F.args_bexc_ga (.ref x) (.str "__class__" t)) ?_
  unfold Builtin.«object.__getattribute__»
  refine wpAny_bind (wpAny_of_eq (a := ((Value.ref x : Value), [Value.str "__class__" t])) (by first | rfl | (simp only [slotArgs]; rfl)) ?_)
  refine wpAny_bind (wpAny_pure (wpAny_bind (L0.at (wpAny_bind (L3.at ?_)))))
  show wpAny _ _ (holding [Value.builtin "object.__class__"] (call (.builtin "getset_descriptor.__get__") [.builtin "object.__class__", .ref x, .ref D]) >>= ret) _ _ _
  refine wpAny_bind (wpAny_holding (wpAny_call (class_get (s := ⟨hp, g, d, t + 1, os⟩) (ox := ox) (od := od) X I hm ?_)))
  refine wpAny_pure ?_
  show wpAny _ _ (handedOut (.ref D)) _ _ _
  rw [handedOut_of (v := .ref D) rfl]
  first
    | exact wpAny_pure (wpAny_pure h)
    | exact wpAny_pure h
    | exact wpAny_pure (wpAny_bind (wpAny_pure (wpAny_pure h)))
theorem kitx_excD (hga : findIn K (.ref D) "__getattribute__" = some (some (.builtin "BaseException.__getattribute__"))) (hgt : findIn K (.ref D) "__getattr__" = some none) (hsub : subIn K (.ref D) (.type "BaseException") = some true) (hdct : hasDictIn K D = true) (ha : findIn K (.ref D) "__class__" = some (some (.builtin "object.__class__")))
    (hn : specialIn K (.builtin "object.__class__") "__get__" = some (some (.builtin "getset_descriptor.__get__"))) (htk : takesIn K (.builtin "object.__class__") = some true) (hm : mroIn K D (.type "object") = some true) :
    KitX K (.ref x) (.ref D) (fun h => InstAt h x ox D od) where
  ty := fun _ _ _ I => I.type
  it := fun _ _ X _ => by
    obtain ⟨cdD, hcD, _⟩ := any_some hdct
    unfold clsIn at hcD
    split at hcD
    · rename_i c' d' cd' sl' ho
      intro A' Q' E' s' k q
      unfold isType loadHead
      exact wpAny_bind (wpAny_loadPart (k _ _ (X _ _ ho)) (wpAny_pure q))
    · cases hcD
  ne := fun h tp dd its n sl X htp => by
    obtain ⟨cdD, hcD, _⟩ := any_some hdct
    refine Bool.eq_false_iff.mpr fun q => ?_
    have e : D = tp := Value.ref.inj (beq_iff_eq.mp q)
    subst e
    unfold clsIn at hcD
    split at hcD
    · rename_i c' d' cd' sl' ho
      have z := (X _ _ ho).symm.trans htp
      cases z
    · cases hcD
  ca := fun X I k => kin_classD hga hgt hsub hdct ha hn htk hm X I k
end
end PySem.W
namespace Dv
open PySem PySem.Spec PyProof.Rows L2
/-! ### a kept exception is asked -/
/-- at a: a kept exception of the class at D, its fields fs -/
def Kx (H : Hp) (a D : Addr) (fs : List (Str × V)) : Prop := ∃ d, H a = some (exk a (.ref D) (some d)) ∧ H d = some (.xd fs)
/-- what an object is for isinstance: none, or a kept exception -/
def Ky (K : PySem.W.Frag) (H : Hp) (x : V) (t : Value) : Prop := (x = .non ∧ t = .type "NoneType") ∨ ∃ a D fs, x = .ref a ∧ Kx H a D fs ∧ ExcC K D ∧ t = .ref D
def rIsK (K : PySem.W.Frag) : List V → Hp → VK → Prop := fun xs H Q => ∃ (x c : V) (t u : Value) (b : Bool), xs = [x, c] ∧ ClsV c u ∧ Ky K H x t ∧ PySem.W.kitOne K t u = some b ∧ Q (.bl b) H
section
variable {X : Cx} {pins : List (Addr × Obj)} {σ : L2.St} {H : Hp} {s : Shared}
theorem kx_at {a D : Addr} {fs : List (Str × V)} (I : Inv X pins σ H s) (k : Kx H a D fs) : ∃ (oe od : Obj) (dd : Addr), PySem.W.InstAt s.heap a oe D (some od) ∧ oe.dict = some dd ∧ H dd = some (.xd fs) ∧ s.heap.get? dd = some od := by
  obtain ⟨d, e1, e2⟩ := k
  obtain ⟨oe, vs, h1, h2, h3, h4⟩ := exk_at I.hok e1
  have hx : ObjOk X.prog X.w H s.heap d (.xd fs) := I.hok d _ e2
  obtain ⟨mA, hns, hr⟩ := hx
  obtain ⟨od, ho, hl⟩ := lookIn_ns hns
  exact ⟨oe, od, d, ⟨h1, h2, by unfold PySem.W.notCls; rw [h4] <;> rfl, by rw [h3]; exact ho⟩, h3, e2, ho⟩
theorem call_isK : CallR X (.builtin "isinstance") (rIsK X.K) := by
  intro pins s σ H xs us Q I r h
  obtain ⟨x, c, t, u, b, rfl, k, ky, e, q⟩ := h
  obtain ⟨u1, u2, rfl, r1, r2⟩ := vals2 r
  have e2 := k.eq r2
  subst e2
  rcases ky with ⟨rfl, rfl⟩ | ⟨a, D, fs, rfl, kx, C, rfl⟩
  · cases (show u1 = Value.none from r1)
    exact PySem.W.kia_one PySem.W.kitx_none I.kIn True.intro e (fun z => nomatch z) fun tk => ⟨.bl b, H, I.tok tk, rfl, q⟩
  · cases (show u1 = Value.ref a from r1)
    obtain ⟨oe, od, dd, J, _, _, _⟩ := kx_at I kx
    exact PySem.W.kia_one (PySem.W.kitx_excD C.hg C.hk C.hs C.hd C.ha C.hn C.ht C.hm) I.kIn J e (fun z => nomatch z) fun tk => ⟨.bl b, H, I.tok tk, rfl, q⟩
/-- e.n, e a kept exception -/
def tXk (K : PySem.W.Frag) (n : Str) (te : TE) : TE := fun σ H Q => te σ H fun x H1 => ∃ (a D : Addr) (fs : List (Str × V)) (v : V), x = .ref a ∧ Kx H1 a D fs ∧ XfC K D ∧ PySem.W.findIn K (.ref D) n = some none ∧ fs.lookup n = some v ∧ Q v H1
theorem pe_xk {e : Expr} {te : TE} {pos : Pos} {n : Str} (he : PE X e te) (hb : attributeBase e n X.env (eval e X.env) = eval e X.env := by rfl) : PE X (.Attribute e n pos) (tXk X.K n te) := by
  refine ⟨fun pins s σ H Q I h => ?_⟩
  refine attr_of hb (thn (he.run pins s σ H _ I h) fun u s1 hh => ?_)
  obtain ⟨x, H1, I1, rx, a, D, fs, v, ex, ⟨d, e1, e2⟩, T, hno, l, q⟩ := hh
  subst ex
  obtain rfl : u = Value.ref a := rx
  obtain ⟨oe, vs, h1, h2, h3, h4⟩ := exk_at I1.hok e1
  have hx : ObjOk X.prog X.w H1 s1.heap d (.xd fs) := I1.hok d _ e2
  obtain ⟨mA, hns, hr⟩ := hx
  obtain ⟨od, ho, hl⟩ := lookIn_ns hns
  obtain ⟨u, hu, ru⟩ := RelO.some_of (v := v) (o := mA n) (by rw [← l]; exact hr n)
  have J : PySem.W.InstAt s1.heap a oe D (some od) := ⟨h1, h2, by unfold PySem.W.notCls; rw [h4] <;> rfl, by rw [h3]; exact ho⟩
  exact HandSPX.exc_get I1.kIn J T.ga T.gg T.exC (PySem.W.findObj_own T.hdC hno rfl (by rw [hl, hu])) (handed_of ru) ⟨v, H1, I1.tok _, ru, q⟩
end
/-- isinstance(e, c) -/
abbrev tIsK (K : PySem.W.Frag) (c : V) : TE := tCB (rIsK K) (tCons (tVar 0) (tCons (tC c) tNil))
/-- if isinstance(e, c): found = found + [kd, e.n] -/
def tKf (K : PySem.W.Frag) (c : V) (kd n : Str) : TS := tIfS (tTru K (tIsK K c)) (tAsg (tOp (rB .add) (tVar 1) (tLst (tCons (tC (.str kd)) (tCons (tXk K n (tVar 0)) tNil)))) (gName 1)) tNext
def tKl (K : PySem.W.Frag) (c : V) : TS := tIfS (tAnd (tTest (tOp (rC K .notN) (tVar 0) (tC .non))) (tNot (tTru K (tIsK K c)))) (fun _ _ _ => False) tNext
section
variable {X : Cx} {y z : Str} {p1 p2 p3 p4 p5 p6 p7 p8 p9 pa pb pos : Pos} {j1 k : Nat} {c : V} {kd n : Str}
theorem s_kf {x : Str} {pos' : Pos} (hN : X.N.Nodup) (hc : PE X (.Name x p3) (tC c)) (hg : Gl X "isinstance") (hm : X.mg "isinstance" = none)
    (h0 : X.N[0]? = some y := by rfl) (h1 : X.N[1]? = some z := by rfl) (v0 : Vis X.env.scope y := by first | exact Or.inl rfl | exact Or.inr (Or.inl rfl) | exact Or.inr (Or.inr rfl)) (l1 : Loc X.env.scope z := by first | exact Or.inl rfl | exact Or.inr rfl)
    (d0 : (y == ("__debug__" : Str)) = false := by decide) (d1 : (y == ("__classdict__" : Str)) = false := by decide) (e0 : (z == ("__debug__" : Str)) = false := by decide) (e1 : (z == ("__classdict__" : Str)) = false := by decide)
    (v1 : Vis X.env.scope z := by first | exact Or.inl rfl | exact Or.inr (Or.inl rfl) | exact Or.inr (Or.inr rfl))
    (he : starEach [.Name y p2, .Name x p3] X.env = (false, eval (.Name y p2) X.env) :: starEach [.Name x p3] X.env := by rfl) (he2 : starEach [.Name x p3] X.env = (false, eval (.Name x p3) X.env) :: starEach [] X.env := by rfl)
    (hpl : (backTo p4 (starEach [.Name x p3] X.env)).any (·.1) = false := by rfl)
    (ht : ∀ whole, isTrue (.Call (.Name "isinstance" p1) [.Name y p2, .Name x p3] [] p4) X.env whole = (do let v ← whole; standAt (Expr.Call (.Name "isinstance" p1) [.Name y p2, .Name x p3] [] p4).pos; holding [v] (truthy v)) := by intro _; rfl)
    (hb : attributeBase (.Name y p5) n X.env (eval (.Name y p5) X.env) = eval (.Name y p5) X.env := by rfl)
    (hs1 : starEach [.Constant (.str kd) j1 p7, .Attribute (.Name y p5) n p6] X.env = (false, eval (.Constant (.str kd) j1 p7) X.env) :: starEach [.Attribute (.Name y p5) n p6] X.env := by rfl)
    (hs2 : starEach [.Attribute (.Name y p5) n p6] X.env = (false, eval (.Attribute (.Name y p5) n p6) X.env) :: starEach [] X.env := by rfl)
    (hsw : swapsWith (.BinOp (.Name z p8) .Add (.List [.Constant (.str kd) j1 p7, .Attribute (.Name y p5) n p6] p9) pa) (some (.Name z pb)) pos.line X.env = pure false := by rfl)
    (hf : X.fn z = true ∨ X.env.scope.names.lookup z = some .local := by first | exact .inl rfl | exact .inr rfl | assumption) :
    PS X (.If (.Call (.Name "isinstance" p1) [.Name y p2, .Name x p3] [] p4) [.Assign [.Name z pb] (.BinOp (.Name z p8) .Add (.List [.Constant (.str kd) j1 p7, .Attribute (.Name y p5) n p6] p9) pa) pos] [] pos') (tKf X.K c kd n) :=
  ps_if (pt_truth (pe_callB call_isK hg hm (by decide +kernel) (pa_cons (pe_var h0 v0 d0 d1) (pa_cons hc pa_nil he2) he) (by decide) (by decide) he hpl) ht)
    (pss_one (ps_set hN h1 l1 (pe_op (op_B .add) (pe_var h1 v1 e0 e1) (pe_lst (pa_cons pe_str (pa_cons (pe_xk (pe_var h0 v0 d0 d1) hb) pa_nil hs2) hs1))) hsw hf)) pss_nil
theorem s_kl {x : Str} {ba : List Stmt} (hr : Room k X.A) (hc : PE X (.Name x p3) (tC c)) (hg : Gl X "isinstance") (hm : X.mg "isinstance" = none)
    (h0 : X.N[0]? = some y := by rfl) (v0 : Vis X.env.scope y := by first | exact Or.inl rfl | exact Or.inr (Or.inl rfl) | exact Or.inr (Or.inr rfl))
    (d0 : (y == ("__debug__" : Str)) = false := by decide) (d1 : (y == ("__classdict__" : Str)) = false := by decide)
    (hmk : behindInMarks .IsNot (.Constant .none j1 p6) = false := by rfl)
    (he : starEach [.Name y p2, .Name x p3] X.env = (false, eval (.Name y p2) X.env) :: starEach [.Name x p3] X.env := by rfl) (he2 : starEach [.Name x p3] X.env = (false, eval (.Name x p3) X.env) :: starEach [] X.env := by rfl)
    (hpl : (backTo p4 (starEach [.Name x p3] X.env)).any (·.1) = false := by rfl)
    (ht : ∀ whole, isTrue (.Call (.Name "isinstance" p1) [.Name y p2, .Name x p3] [] p4) X.env whole = (do let v ← whole; standAt (Expr.Call (.Name "isinstance" p1) [.Name y p2, .Name x p3] [] p4).pos; holding [v] (truthy v)) := by intro _; rfl) :
    PS X (.If (.BoolOp .And [.Compare (.Name y p5) [.IsNot] [.Constant .none j1 p6] p7, .UnaryOp .Not (.Call (.Name "isinstance" p1) [.Name y p2, .Name x p3] [] p4) p8] p9) ba [] pos) (tKl X.K c) :=
  ps_if (pw_and (pt_cmpR (op_C hr .notN) (pe_var h0 v0 d0 d1) pe_non hmk) (pw_and1 (pt_not (pt_truth (pe_callB call_isK hg hm (by decide +kernel) (pa_cons (pe_var h0 v0 d0 d1) (pa_cons hc pa_nil he2) he) (by decide) (by decide) he hpl) ht)))).pt
    ⟨fun _ _ _ _ _ _ h => h.elim⟩ pss_nil
end
end Dv
namespace Dv
open PySem PySem.Spec L2
/-! ### the kind of a kept exception -/
/-- what the classes must say: (class, what its kind is called, its field) -/
structure KdF (K : PySem.W.Frag) (l : List (Addr × Str × Str)) (CF : Addr) : Prop where
  exc : ∀ q ∈ l, ExcC K q.1
  xf : ∀ q ∈ l, XfC K q.1
  no : ∀ q ∈ l, PySem.W.findIn K (.ref q.1) q.2.2 = some none
  non : ∀ q ∈ l, PySem.W.kitOne K (.type "NoneType") (.ref q.1) = some false
  one : ∀ q ∈ l, ∀ r ∈ l, PySem.W.kitOne K (.ref q.1) (.ref r.1) = some (decide (q.1 = r.1))
  val : ∀ q ∈ l, PySem.W.kitOne K (.ref q.1) (.type "ValueError") = some true
  exm : ∀ q ∈ l, PySem.W.exmOne K (.ref q.1) (.ref CF) = some true
  nd : (l.map (·.1)).Nodup
def excB (K : PySem.W.Frag) (C : Addr) : Bool := decide (PySem.W.findIn K (.ref C) "__getattribute__" = some (some (.builtin "BaseException.__getattribute__"))) && (decide (PySem.W.findIn K (.ref C) "__getattr__" = some none) && (decide (PySem.W.subIn K (.ref C) (.type "BaseException") = some true) && (PySem.W.hasDictIn K C &&
  (decide (PySem.W.findIn K (.ref C) "__class__" = some (some (.builtin "object.__class__"))) && (decide (PySem.W.specialIn K (.builtin "object.__class__") "__get__" = some (some (.builtin "getset_descriptor.__get__"))) && (decide (PySem.W.takesIn K (.builtin "object.__class__") = some true) && decide (PySem.W.mroIn K C (.type "object") = some true)))))))
theorem excB_ok {K : PySem.W.Frag} {C : Addr} (h : excB K C = true) : ExcC K C := by
  unfold excB at h
  simp only [Bool.and_eq_true, decide_eq_true_eq] at h
  obtain ⟨h1, h2, h3, h4, h5, h6, h7, h8⟩ := h
  exact ⟨h1, h2, h3, h4, h5, h6, h7, h8⟩
def kdB (K : PySem.W.Frag) (l : List (Addr × Str × Str)) (CF : Addr) : Bool :=
  (l.all fun q => excB K q.1 && (xfB K q.1 && (decide (PySem.W.findIn K (.ref q.1) q.2.2 = some none) && (decide (PySem.W.kitOne K (.type "NoneType") (.ref q.1) = some false) && (decide (PySem.W.kitOne K (.ref q.1) (.type "ValueError") = some true) && (decide (PySem.W.exmOne K (.ref q.1) (.ref CF) = some true) &&
    l.all fun r => decide (PySem.W.kitOne K (.ref q.1) (.ref r.1) = some (decide (q.1 = r.1))))))))) && decide (l.map (·.1)).Nodup
theorem kdB_ok {K : PySem.W.Frag} {l : List (Addr × Str × Str)} {CF : Addr} (h : kdB K l CF = true) : KdF K l CF := by
  unfold kdB at h
  rw [Bool.and_eq_true] at h
  obtain ⟨h, n⟩ := h
  have g := List.all_eq_true.mp h
  simp only [Bool.and_eq_true, decide_eq_true_eq] at g
  exact ⟨fun q hq => excB_ok (g q hq).1, fun q hq => xfB_ok (g q hq).2.1, fun q hq => (g q hq).2.2.1, fun q hq => (g q hq).2.2.2.1, fun q hq r hr => of_decide_eq_true (List.all_eq_true.mp (g q hq).2.2.2.2.2.2 r hr), fun q hq => (g q hq).2.2.2.2.1, fun q hq => (g q hq).2.2.2.2.2.1, of_decide_eq_true n⟩
abbrev kdL (cc : Nat → Addr) (kds : List (Nat × Str × Str)) : List (Addr × Str × Str) := kds.map fun q => (cc q.1, q.2.1, q.2.2)
/-- what the kind of x is -/
def KdOf (H : Hp) (l : List (Addr × Str × Str)) (x : V) (r : List V) : Prop := (x = .non ∧ r = []) ∨ ∃ a C kd f u, x = .ref a ∧ Kx H a C [(f, u)] ∧ (C, kd, f) ∈ l ∧ r = [.str kd, u]
def spKind (l : List (Addr × Str × Str)) : Sp := fun vs H Q _ => ∃ x r, vs = [x] ∧ KdOf H l x r ∧ ∀ p H', (∀ b o, H b = some o → H' b = some o) → H p = none → H' p = some (.lst r) → Q (.ref p) H'
theorem spKind_len {l : List (Addr × Str × Str)} {vs : List V} {H : Hp} {Q : VK} {E : XK} (h : spKind l vs H Q E) : vs.length = 1 := by
  obtain ⟨x, r, rfl, _⟩ := h
  rfl
def tKs (K : PySem.W.Frag) (t : TS) : List (Addr × Str × Str) → TS
  | [] => t
  | q :: l => tSeq (tKf K (.ref q.1) q.2.1 q.2.2) (tKs K t l)
def tKind (K : PySem.W.Frag) (l : List (Addr × Str × Str)) : TS := tSeq (tAsg (tLst tNil) (gName 1)) (tKs K (tSeq (tKl K (.ty "ValueError")) (tRet (tVar 1))) l)
section
variable {K : PySem.W.Frag} {H0 H : Hp} {x : V} {p : Addr} {l0 : List V} {D : Ends} {l : List (Addr × Str × Str)} {CF : Addr}
theorem Kx.mono {a C : Addr} {fs : List (Str × V)} (h : Kx H0 a C fs) (g : ∀ b o, H0 b = some o → H b = some o) : Kx H a C fs := by
  obtain ⟨d, h1, h2⟩ := h
  exact ⟨d, g _ _ h1, g _ _ h2⟩
/-- nothing found -/
theorem kf_no {t u : Value} {c : V} {kd n : Str} (hc : ClsV c u) (ky : Ky K H x t) (e : PySem.W.kitOne K t u = some false) (h : D.nx [some x, some (.ref p)] H) : tKf K c kd n D [some x, some (.ref p)] H :=
  ⟨x, rfl, x, c, t, u, false, rfl, hc, ky, e, false, rfl, h⟩
/-- found -/
theorem kf_yes {a C : Addr} {kd f : Str} {u : V} (ec : ExcC K C) (xf : XfC K C) (no : PySem.W.findIn K (.ref C) f = some none) (kx : Kx H a C [(f, u)]) (e : PySem.W.kitOne K (.ref C) (.ref C) = some true) (hp : H p = some (.lst [])) 
    (h : ∀ q H', (∀ b o, H b = some o → H' b = some o) → H q = none → H' q = some (.lst [.str kd, u]) → D.nx [some (.ref a), some (.ref q)] H') : tKf K (.ref C) kd f D [some (.ref a), some (.ref p)] H := by
  refine ⟨.ref a, rfl, .ref a, .ref C, .ref C, .ref C, true, rfl, .own C, .inr ⟨a, C, _, rfl, kx, ec, rfl⟩, e, true, rfl, ?_⟩
  show tAsg (tOp (rB .add) (tVar 1) (tLst (tCons (tC (.str kd)) (tCons (tXk K f (tVar 0)) tNil)))) (gName 1) D [some (.ref a), some (.ref p)] H
  refine ⟨.ref p, rfl, ?_⟩
  refine ⟨.ref a, rfl, a, C, _, u, rfl, kx, xf, no, by simp, ?_⟩
  refine ⟨by rw [sizeLine_eq]; simp, fun b hb => .inr (.inr ⟨p, b, [], [.str kd, u], rfl, rfl, ?_, upd_same, by rw [sizeLine_eq]; simp, fun q hq => ?_⟩)⟩
  · rw [upd_ne (fun z => by rw [z, hb] at hp; cases hp)]
    exact hp
  · have nq : ∀ {y o}, H y = some o → y ≠ q ∧ y ≠ b := fun {y o} e => by
      refine ⟨fun z => ?_, fun z => by rw [z, hb] at e; cases e⟩
      rw [← z] at hq
      have nb : y ≠ b := fun z => by rw [z, hb] at e; cases e
      rw [upd_ne nb, e] at hq
      cases hq
    refine h q _ (fun y o e => ?_) ?_ upd_same
    · rw [upd_ne (nq e).1, upd_ne (nq e).2]
      exact e
    · cases eq : H q with
      | none => rfl
      | some o => exact absurd rfl (nq eq).1
theorem ks_none {t : TS} (F : KdF K l CF) {m : List (Addr × Str × Str)} (hm : ∀ q ∈ m, q ∈ l) (h : t D [some .non, some (.ref p)] H) : tKs K t m D [some .non, some (.ref p)] H := by
  induction m with
  | nil => exact h
  | cons q m ih => exact kf_no (.own q.1) (.inl ⟨rfl, rfl⟩) (F.non q (hm q List.mem_cons_self)) (ih fun r hr => hm r (List.mem_cons_of_mem _ hr))
theorem ks_rest {t : TS} (F : KdF K l CF) {a C : Addr} {fs : List (Str × V)} {kd f : Str} (hC : (C, kd, f) ∈ l) (kx : Kx H a C fs) {m : List (Addr × Str × Str)} (hm : ∀ q ∈ m, q ∈ l) (hn : ∀ q ∈ m, q.1 ≠ C) (h : t D [some (.ref a), some (.ref p)] H) : tKs K t m D [some (.ref a), some (.ref p)] H := by
  induction m with
  | nil => exact h
  | cons q m ih =>
    have e := F.one _ hC q (hm q List.mem_cons_self)
    rw [decide_eq_false (Ne.symm (hn q List.mem_cons_self))] at e
    exact kf_no (.own q.1) (.inr ⟨a, C, fs, rfl, kx, F.exc _ hC, rfl⟩) e (ih (fun r hr => hm r (List.mem_cons_of_mem _ hr)) fun r hr => hn r (List.mem_cons_of_mem _ hr))
theorem ks_some {t : TS} (F : KdF K l CF) {a C : Addr} {kd f : Str} {u : V} (kx : Kx H a C [(f, u)]) (hp : H p = some (.lst [])) {m : List (Addr × Str × Str)} (hm : ∀ q ∈ m, q ∈ l) (hC : (C, kd, f) ∈ m) (nd : (m.map (·.1)).Nodup)
    (h : ∀ q H', (∀ b o, H b = some o → H' b = some o) → H q = none → H' q = some (.lst [.str kd, u]) → t D [some (.ref a), some (.ref q)] H') : tKs K t m D [some (.ref a), some (.ref p)] H := by
  induction m with
  | nil => cases hC
  | cons q m ih =>
    rw [List.map_cons, List.nodup_cons] at nd
    obtain ⟨n1, n2⟩ := nd
    have hl := hm _ hC
    by_cases e : q.1 = C
    · have eq : q = (C, kd, f) := by
        rcases List.mem_cons.mp hC with z | z
        · exact z.symm
        · exact absurd (List.mem_map.mpr ⟨_, z, e.symm⟩) n1
      subst eq
      refine kf_yes (F.exc _ hl) (F.xf _ hl) (F.no _ hl) kx (by rw [F.one _ hl _ hl, decide_eq_true rfl]) hp fun r H' g1 g2 g3 => ?_
      exact ks_rest F hl (kx.mono g1) (fun r hr => hm r (List.mem_cons_of_mem _ hr)) (fun r hr z => n1 (List.mem_map.mpr ⟨r, hr, z⟩)) (h r H' g1 g2 g3)
    · have hC' : (C, kd, f) ∈ m := by
        rcases List.mem_cons.mp hC with z | z
        · exact absurd (by rw [← z]) e
        · exact z
      have e2 := F.one _ hl q (hm q List.mem_cons_self)
      rw [decide_eq_false (Ne.symm e)] at e2
      exact kf_no (.own q.1) (.inr ⟨a, C, _, rfl, kx, F.exc _ hl, rfl⟩) e2 (ih (fun r hr => hm r (List.mem_cons_of_mem _ hr)) hC' n2)
/-- the body keeps the promise -/
theorem kind_body (F : KdF K l CF) {N : List Str} {vs : List V} {Q : VK} {E : XK} (hN : N.length = 2) (h : spKind l vs H Q E) : tKind K l { nx := fun _ H' => Q .non H', rt := Q } (L2.start N vs) H := by
  obtain ⟨x, r, rfl, hk, q⟩ := h
  have es : L2.start N [x] = [some x, none] := by
    unfold L2.start
    rw [hN]
    rfl
  rw [es]
  refine ⟨by rw [sizeLine_eq]; decide, fun p hp => ?_⟩
  have nb : ∀ {y o}, H y = some o → y ≠ p := fun {y o} e z => by rw [z, hp] at e; cases e
  have g0 : ∀ b o, H b = some o → upd H p (.lst []) b = some o := fun b o e => by rw [upd_ne (nb e)]; exact e
  show tKs K _ l _ [some x, some (.ref p)] (upd H p (.lst []))
  rcases hk with ⟨rfl, rfl⟩ | ⟨a, C, kd, f, u, rfl, kx, hC, rfl⟩
  · refine ks_none F (fun _ h => h) ?_
    refine ⟨.non, rfl, rfl, false, rfl, ?_⟩
    exact ⟨.ref p, rfl, q p _ g0 hp upd_same⟩
  · refine ks_some F (kx.mono g0) upd_same (fun _ h => h) hC F.nd fun r H' g1 g2 g3 => ?_
    have hr : H r = none := by
      cases e : H r with
      | none => rfl
      | some o => rw [g0 r o e] at g2; cases g2
    refine ⟨.ref a, rfl, rfl, true, rfl, ?_⟩
    refine ⟨.ref a, rfl, .ref a, .ty "ValueError", .ref C, .type "ValueError", true, rfl, .ty _, .inr ⟨a, C, _, rfl, (kx.mono g0).mono g1, F.exc _ hC, rfl⟩, F.val _ hC, true, rfl, ?_⟩
    exact ⟨.ref r, rfl, q r H' (fun b o e => g1 b o (g0 b o e)) hr g3⟩
end
end Dv
namespace Dv
open PySem PySem.Spec L2
/-! ### a call whose exception is caught, kept, and told by its kind -/
def D.isNon : D → Bool
  | .non => true
  | _ => false
def vD : V → Option D
  | .str s => some (.str s)
  | .int i => some (.int i)
  | _ => none
theorem vD_rep {cl : Ct} {M : Hp} {v : V} {d : D} (h : vD v = some d) : Rep cl M d v := by
  cases v <;> simp [vD] at h
  · subst h; rfl
  · subst h; rfl
def kindD (kds : List (Nat × Str × Str)) (X : Xn) : Option D := (kds.find? fun q => q.1 == X.c).bind fun q => if q.2.2 = X.f then (vD X.v).map fun d => .lst [.str q.2.1, d] else none
/-- what is told, x the value and xx the exception of the body -/
def refD (kds : List (Nat × Str × Str)) (io : List Bool) (nl iC : Nat) (x : Env → Option Out) (xx : Xx) : Sem' := fun ds =>
  if ds.length = io.length ∧ io.length ≤ nl then
    match x (env0 nl io ds) with
    | some (.nx Γ) => if (Γ.at iC).any (fun p => p.1.isNon && !p.2) then some (.lst [], true, []) else none
    | _ => (xx (env0 nl io ds)).bind fun p => (kindD kds p.1).map fun d => (d, true, [])
  else none
/-- a try that keeps -/
theorem s_keep {X : Cx} {Φ : Pm} {b : S} {x n y : Str} {c : Value} {body : List Stmt} {np p1 p2 p3 pos pos' : Pos} (iE iC : Nat) (hN : X.N.Nodup) (hc : Names X x c)
    (hb : ∀ (E : XK) (pn : List (Addr × Obj)) (xe : Value → Shared → Prop), Takes (X.tr pn xe) (fun cls d _ H => E cls d H) → PassesOwn (model X.prog X.w) X.A X.env xe → PSs (X.tr pn xe) body (trS X.K (Φ.at E) b))
    (hs : X.stack = X.env :: X.outer := by rfl) (hf : X.env.frame = some X.env.locals := by rfl) (hi : X.N[iE]? = some n := by rfl) (hln : X.env.kindOf n = some .local := by rfl) (hy : X.N[iC]? = some y := by rfl) (ly : Loc X.env.scope y := by first | exact Or.inl rfl | exact Or.inr rfl)
    (hv : Vis X.env.scope n := by first | exact Or.inl rfl | exact Or.inr (Or.inl rfl) | exact Or.inr (Or.inr rfl)) (d0 : (n == ("__debug__" : Str)) = false := by decide) (d1 : (n == ("__classdict__" : Str)) = false := by decide)
    (hsw : swapsWith (.Name n p2) (some (.Name y p1)) p3.line X.env = pure false := by rfl) (hff : X.fn y = true ∨ X.env.scope.names.lookup y = some .local := by first | exact .inl rfl | exact .inr rfl | assumption) :
    PS X (.Try body [.ExceptHandler (some (.Name x np)) (some n) [.Assign [.Name y p1] (.Name n p2) p3] pos'] [] [] pos) (tKeep X.K X.N.length c iE (fun E => trS X.K (Φ.at E) b) (tAsg (tVar iE) (gName iC))) :=
  ps_keep hs hf hN hi hln hc hb fun a pn => pss_one (ps_set (X := X.suite a pn) hN hy ly (pe_var hi hv d0 d1) hsw hff)
/-- what a def does that keeps: c = None; try: body except ..: c = e; return kind(c) -/
def tRef (K : PySem.W.Frag) (Φ : Pm) (N : List Str) (c : Value) (iE iC kix : Nat) (b : S) : TS :=
  tSeq (trS K Φ (.setk iC (.cst .non))) (tSeq (tKeep K N.length c iE (fun E => trS K (Φ.at E) b) (tAsg (tVar iE) (gName iC))) (trS K Φ (.ret (.call kix (.cons (.var iC) .nil)))))
def keepW (c0 : Ct0) (Φ : Pm) (N : List Str) (c : Value) (iE iC kix : Nat) (D : Ends) : XK := fun cls d H' => PySem.W.exmOne c0.K cls c = some true ∧ ∀ (σ' : L2.St) (a : Addr), σ'.length = N.length → H' a = none →
  tAsg (tVar iE) (gName iC) { nx := fun σ2 H2 => trS c0.K Φ (.ret (.call kix (.cons (.var iC) .nil))) D (σ2.set iE none) (upd H2 a (exk a cls d)), rt := fun _ _ => False } (σ'.set iE (some (.ref a))) H'
theorem ios_none {cl : Ct} {M H : Hp} : ∀ {io : List Bool} {vs : List V}, io.all (fun b => !b) = true → vs.length = io.length → IosOk cl M H io vs []
  | [], [], _, _ => trivial
  | false :: io, _ :: vs, h, l => ios_none (io := io) (vs := vs) (by simpa using h) (by simpa using l)
section
variable {c0 : Ct0} {P : Program} {w : World} {mg : Str → Option Value} {base : Heap} {x : Str} {st : Stmt} {N ps : List Str} {k : Nat} {g : Cfg} {sg : Sig} {Φ : Pm}
theorem ref_body {ψ : Nat → Semx} {io : List Bool} {nl iE iC kix jF : Nat} {b : S} {kds : List (Nat × Str × Str)} (hs : sg.io = io) (hN : N.length = nl) (hio : io.all (fun b => !b) = true) (hE : iE < nl) (hC : iC < nl) (hne : iC ≠ iE) (hΦ : Sees c0 g Φ) (hx : XOk c0 g ψ Φ)
    (hk : Φ.sp kix = spKind (kdL c0.c kds)) (F : KdF c0.K (kdL c0.c kds) (c0.c jF)) {vs : List V} {H : Hp} {Q : VK} {E : XK}
    (h : spOf c0 sg (refD kds io nl iC (evS { g with lk := lkOf io } (.seq (.setk iC (.cst .non)) b)) (xS ψ { g with lk := lkOf io } (.seq (.setk iC (.cst .non)) b))) vs H Q E) :
    tRef c0.K (Φ.at E) N (.ref (c0.c jF)) iE iC kix b { nx := fun _ H' => Q .non H', rt := Q } (L2.start N vs) H := by
  obtain ⟨cl, M, ds, rfl, hf, s, a, n, d, bb, xs, e, q⟩ := h
  rw [hs] at a n q
  unfold refD at e
  obtain ⟨⟨c1, c2⟩, e⟩ := ite_some e
  obtain ⟨ok, own, nofree⟩ := ok_start hN c2 hf s a n
  have no : ∀ x, ¬ isOwn (env0 nl io ds) (L2.start N vs) x := fun x z => by
    have := own x z
    unfold inA at this
    rw [ioVals_none hio] at this
    cases this
  have fin : ∀ {Γ' : Env} {σ' : L2.St} {M' H' H2 : Hp} {p : Addr} {ws : List V} {ys : List D}, Stp cl (lkOf io) (isOwn (env0 nl io ds) (L2.start N vs)) (env0 nl io ds) (L2.start N vs) M H Γ' σ' M' H' → (∀ b o, H' b = some o → H2 b = some o) → H' p = none → H2 p = some (.lst ws) → Reps cl M' ys ws →
      (∀ v M' H', Fr (inA io vs) M H M' H' → Same M' H' → IosOk cl M' H' io vs [] → ResOk cl (fun a => H a = none) M' H' (.lst ys) true v → Q v H') → Q (.ref p) H2 := by
    intro Γ' σ' M' H' H2 p ws ys S ext hp hl rr q
    refine q (.ref p) M' H2 ⟨fun a o h n => ext a o (S.fr.keep a o h (no a)), fun a h z => ?_, S.fr.subM, fun a h h' => (S.fr.new a h h').imp id (own a)⟩ (fun a o h => ext a o (S.ok.sub a o h)) (ios_none hio a.len.1) ⟨p, _, rfl, ?_, hl, ⟨ws, rfl, rr⟩, none_of_live S.fr hp⟩
    · have l := S.fr.live a h
      cases e : H' a with
      | none => exact l e
      | some o => rw [ext a o e] at z; cases z
    · cases e : M' p with
      | none => rfl
      | some o => rw [S.ok.sub p o e] at hp; cases hp
  have wish : ∀ (E' : XK) (D' : Ends) σ H, trS cl.K (Φ.at E') (.seq (.setk iC (.cst .non)) b) D' σ H = trS cl.K (Φ.at E') b D' (σ.set iC (some .non)) H := fun _ _ _ _ => rfl
  have goal : ∀ (D : Ends), tRef cl.K (Φ.at E) N (.ref (cl.c jF)) iE iC kix b D (L2.start N vs) H = trS cl.K (Φ.at (keepW cl.toCt0 (Φ.at E) N (.ref (cl.c jF)) iE iC kix D))
      (.seq (.setk iC (.cst .non)) b) { D with nx := fun σ H => trS cl.K (Φ.at E) (.ret (.call kix (.cons (.var iC) .nil))) D σ H } (L2.start N vs) H := fun _ => rfl
  rw [goal]
  have ret : ∀ (σ' : L2.St) (v : V) (H' : Hp), σ'[iC]? = some (some v) → spKind (kdL cl.c kds) [v] H' Q E → trS cl.K (Φ.at E) (.ret (.call kix (.cons (.var iC) .nil))) { nx := fun _ H' => Q .non H', rt := Q } σ' H' := fun σ' v H' h1 h2 => by
    rw [← hk] at h2
    exact ⟨v, h1, h2⟩
  have raised : ∀ {X : Xn} {Γ' : Env} {dd : D}, xS ψ { g with lk := lkOf io } (.seq (.setk iC (.cst .non)) b) (env0 nl io ds) = some (X, Γ') → kindD kds X = some dd →
      (∀ v M' H', Fr (inA io vs) M H M' H' → Same M' H' → IosOk cl M' H' io vs [] → ResOk cl (fun a => H a = none) M' H' dd true v → Q v H') → ∀ D', trS cl.K (Φ.at (keepW cl.toCt0 (Φ.at E) N (.ref (cl.c jF)) iE iC kix { nx := fun _ H' => Q .non H', rt := Q }))
      (.seq (.setk iC (.cst .non)) b) D' (L2.start N vs) H := by
    intro X Γ' dd e1 e2 q D'
    unfold kindD at e2
    obtain ⟨kq, f1, e2⟩ := bind_some' e2
    obtain ⟨f2, e2⟩ := ite_some e2
    obtain ⟨du, f3, e2⟩ := map_some' e2
    subst e2
    have f4 : kq.1 = X.c := by simpa using List.find?_some f1
    have f5 : (cl.c X.c, kq.2.1, X.f) ∈ kdL cl.c kds := List.mem_map.mpr ⟨kq, List.mem_of_find?_eq_some f1, by rw [f4, f2]⟩
    refine xndS_all ψ (Φ := Φ.at (keepW cl.toCt0 (Φ.at E) N (.ref (cl.c jF)) iE iC kix { nx := fun _ H' => Q .non H', rt := Q })) _ { g with lk := lkOf io } cl ⟨hΦ.cc, hΦ.call, hΦ.spo⟩ hx _ X Γ' e1 _ M H ok (fun σ' M' H' S d hd => ⟨F.exm _ f5, fun σ2 a2 hl ha => ?_⟩) D'
    have lE : iE < σ2.length := by rw [hl, hN]; exact hE
    have lC : iC < σ2.length := by rw [hl, hN]; exact hC
    refine ⟨.ref a2, List.getElem?_set_self lE, ?_⟩
    refine ret _ (.ref a2) _ ?_ ⟨.ref a2, _, rfl, .inr ⟨a2, _, kq.2.1, X.f, X.v, rfl, ⟨d, upd_same, ?_⟩, f5, rfl⟩, fun p H2 ext hp hl2 => ?_⟩
    · rw [List.getElem?_set_ne hne.symm, List.getElem?_set_self (by simpa using lC)]
    · rw [upd_ne (fun z => by rw [z, ha] at hd; cases hd)]
      exact hd
    · have na : p ≠ a2 := fun z => by rw [z, upd_same] at hp; cases hp
      rw [upd_ne na] at hp
      refine fin (ys := [.str kq.2.1, du]) S (fun b o e => ext b o ?_) hp hl2 (show Reps cl M' [.str kq.2.1, du] [.str kq.2.1, X.v] from ⟨_, _, rfl, rfl, _, _, rfl, vD_rep f3, rfl⟩) q
      rw [upd_ne (fun z => by rw [z, ha] at e; cases e)]
      exact e
  split at e
  · rename_i Γ' e1
    split at e
    · rename_i e2
      cases e
      refine sndS_all (Φ := Φ.at (keepW cl.toCt0 (Φ.at E) N (.ref (cl.c jF)) iE iC kix { nx := fun _ H' => Q .non H', rt := Q })) _ { g with lk := lkOf io } cl ⟨hΦ.cc, hΦ.call, hΦ.spo⟩ _ _ e1 _ M H ok _ fun σ' M' H' S => ?_
      obtain ⟨⟨d2, b2⟩, e3, e4⟩ : ∃ p, Γ'.at iC = some p ∧ (p.1.isNon && !p.2) = true := by
        cases z : Γ'.at iC with
        | none => rw [z] at e2; cases e2
        | some p => rw [z] at e2; exact ⟨p, rfl, e2⟩
      simp only [Bool.and_eq_true, Bool.not_eq_true'] at e4
      obtain ⟨e4, rfl⟩ := e4
      cases d2 <;> simp [D.isNon] at e4
      obtain ⟨v, g1, g2⟩ := S.ok.slot iC _ _ e3
      cases (show v = V.non from g2)
      exact ret σ' .non H' g1 ⟨.non, [], rfl, .inl ⟨rfl, rfl⟩, fun p H2 ext hp hl => fin (ys := []) S ext hp hl rfl q⟩
    · cases e
  · obtain ⟨⟨X, Γ'⟩, e1, e⟩ := bind_some' e
    obtain ⟨dd, e2, e⟩ := map_some' e
    cases e
    exact raised e1 e2 q _
theorem refused_ok {ψ : Nat → Semx} {io : List Bool} {nl iE iC kix jF : Nat} {b : S} {kds : List (Nat × Str × Str)} (d : DefAt c0.K mg x st ps) (S : FnScope N ps (defScope st)) (hs : sg.io = io) (hN : N.length = nl) (hp : ps.length = io.length) (hio : io.all (fun b => !b) = true) (hE : iE < nl) (hC : iC < nl) (hne : iC ≠ iE) (hΦ : Sees c0 g Φ) (hx : XOk c0 g ψ Φ)
    (hk : Φ.sp kix = spKind (kdL c0.c kds)) (F : KdF c0.K (kdL c0.c kds) (c0.c jF))
    (der : ∀ (f : Addr) (cdv : Value) (A : Around) (outer : List PySem.Env) (s : Shared) (H : Hp) (E : XK), Room k (A.deeper (PyProof.Rows.envOfC x (defScope st) s.heap.objs.size f cdv)) →
      PSs (cxOf (CXr P w) P w c0.K mg base N x (defScope st) f cdv A outer s H E) (defBody st) (tRef c0.K (Φ.at E) N (.ref (c0.c jF)) iE iC kix b)) :
    FnAt P w c0.K mg base (k + 1) x (spX c0 sg (refD kds io nl iC (evS { g with lk := lkOf io } (.seq (.setk iC (.cst .non)) b)) (xS ψ { g with lk := lkOf io } (.seq (.setk iC (.cst .non)) b))) fun _ => none) := by
  obtain ⟨f, fd, Fu, hm, hb⟩ := d
  refine fnAt Fu hb hm (Fu.okX S (fun vs H Q E h => by rw [spX_len h, hs, hp]) fun cdv A outer s H vs Q E hr h => ⟨_, der f cdv A outer s H E hr, ?_⟩)
  exact ref_body hs hN hio hE hC hne hΦ hx hk F (spX_of h fun _ => rfl)
theorem kind_ok {kds : List (Nat × Str × Str)} {jF : Nat} (d : DefAt c0.K mg x st ps) (S : FnScope N ps (defScope st)) (hN : N.length = 2) (hp : ps.length = 1) (F : KdF c0.K (kdL c0.c kds) (c0.c jF))
    (der : ∀ (f : Addr) (cdv : Value) (A : Around) (outer : List PySem.Env) (s : Shared) (H : Hp) (E : XK), Room k (A.deeper (PyProof.Rows.envOfC x (defScope st) s.heap.objs.size f cdv)) →
      PSs (cxOf (CXr P w) P w c0.K mg base N x (defScope st) f cdv A outer s H E) (defBody st) (tKind c0.K (kdL c0.c kds))) : FnAt P w c0.K mg base (k + 1) x (spKind (kdL c0.c kds)) := by
  obtain ⟨f, fd, Fu, hm, hb⟩ := d
  exact fnAt Fu hb hm (Fu.okX S (fun vs H Q E h => by rw [spKind_len (E := E) h, hp]) fun cdv A outer s H vs Q E hr h => ⟨_, der f cdv A outer s H E hr, kind_body (E := E) F hN h⟩)
end
end Dv
namespace Dv.Q
open PySem PySem.Spec L2 Dv
/-! ### what is raised, by equations -/
@[simp] theorem orL_some {α β : Type} (x : Option β) (a : α) (k : α → Option β) : orL x (some a) k = k a := rfl
@[simp] theorem orL_none {α β : Type} (x : Option β) (k : α → Option β) : orL x none k = x := rfl
section
variable {g : Cfg} {ψ : Nat → Semx} {Γ : Env}
@[simp] theorem xe_var (i : Nat) : (xE g ψ (.var i)).e Γ = none := rfl
@[simp] theorem xt_var (i : Nat) : (xE g ψ (.var i)).t Γ = none := rfl
@[simp] theorem xe_cst (v : V) : (xE g ψ (.cst v)).e Γ = none := rfl
@[simp] theorem xt_cst (v : V) : (xE g ψ (.cst v)).t Γ = none := rfl
@[simp] theorem xa_nil : (xE g ψ .nil).a Γ = none := rfl
@[simp] theorem xe_call (f : Nat) (as : E) : (xE g ψ (.call f as)).e Γ = orL ((xE g ψ as).a Γ) ((ev g as).a Γ) (fun p => callX g ψ f p.1 p.2) := rfl
@[simp] theorem xt_call (f : Nat) (as : E) : (xE g ψ (.call f as)).t Γ = orL ((xE g ψ as).a Γ) ((ev g as).a Γ) (fun p => callX g ψ f p.1 p.2) := rfl
@[simp] theorem xe_meth (m : Str) (tbl : List (Nat × Nat)) (o as : E) : (xE g ψ (.meth m tbl o as)).e Γ = ((ev g o).e Γ).bind fun p => (getR p.2 p.1).bind fun d => (methD m tbl d).bind fun f => orL ((xE g ψ as).a p.2) ((ev g as).a p.2) (fun q => callX g ψ f (p.1 :: q.1) q.2) := rfl
@[simp] theorem xt_meth (m : Str) (tbl : List (Nat × Nat)) (o as : E) : (xE g ψ (.meth m tbl o as)).t Γ = ((ev g o).e Γ).bind fun p => (getR p.2 p.1).bind fun d => (methD m tbl d).bind fun f => orL ((xE g ψ as).a p.2) ((ev g as).a p.2) (fun q => callX g ψ f (p.1 :: q.1) q.2) := rfl
@[simp] theorem xa_cons (a r : E) : (xE g ψ (.cons a r)).a Γ = orL ((xE g ψ a).e Γ) ((ev g a).e Γ) (fun p => (xE g ψ r).a p.2) := rfl
@[simp] theorem xe_lst (as : E) : (xE g ψ (.lst as)).e Γ = (xE g ψ as).a Γ := rfl
@[simp] theorem xt_lst (as : E) : (xE g ψ (.lst as)).t Γ = (xE g ψ as).a Γ := rfl
@[simp] theorem xe_tup (as : E) : (xE g ψ (.tup as)).e Γ = (xE g ψ as).a Γ := rfl
@[simp] theorem xe_bi (f : Bi) (as : E) : (xE g ψ (.bi f as)).e Γ = (xE g ψ as).a Γ := rfl
@[simp] theorem xt_bi (f : Bi) (as : E) : (xE g ψ (.bi f as)).t Γ = (xE g ψ as).a Γ := rfl
@[simp] theorem xe_bin (o : BOp) (a b : E) : (xE g ψ (.bin o a b)).e Γ = orL ((xE g ψ a).e Γ) ((ev g a).e Γ) (fun p => (xE g ψ b).e p.2) := rfl
@[simp] theorem xt_bin (o : BOp) (a b : E) : (xE g ψ (.bin o a b)).t Γ = orL ((xE g ψ a).e Γ) ((ev g a).e Γ) (fun p => (xE g ψ b).e p.2) := rfl
@[simp] theorem xe_cmp (o : COp) (a b : E) : (xE g ψ (.cmp o a b)).e Γ = orL ((xE g ψ a).e Γ) ((ev g a).e Γ) (fun p => (xE g ψ b).e p.2) := rfl
@[simp] theorem xt_cmp (o : COp) (a b : E) : (xE g ψ (.cmp o a b)).t Γ = orL ((xE g ψ a).e Γ) ((ev g a).e Γ) (fun p => (xE g ψ b).e p.2) := rfl
@[simp] theorem xe_idx (a b : E) : (xE g ψ (.idx a b)).e Γ = orL ((xE g ψ a).e Γ) ((ev g a).e Γ) (fun p => (xE g ψ b).e p.2) := rfl
@[simp] theorem xt_idx (a b : E) : (xE g ψ (.idx a b)).t Γ = orL ((xE g ψ a).e Γ) ((ev g a).e Γ) (fun p => (xE g ψ b).e p.2) := rfl
@[simp] theorem xe_nt (a : E) : (xE g ψ (.nt a)).e Γ = (xE g ψ a).e Γ := rfl
@[simp] theorem xt_nt (a : E) : (xE g ψ (.nt a)).t Γ = (xE g ψ a).t Γ := rfl
@[simp] theorem xe_and (a b : E) : (xE g ψ (.and_ a b)).e Γ = orL ((xE g ψ a).e Γ) (getB g (ev g a).e Γ) (fun p => if p.1 then (xE g ψ b).e p.2 else none) := rfl
@[simp] theorem xt_and (a b : E) : (xE g ψ (.and_ a b)).t Γ = orL ((xE g ψ a).t Γ) ((ev g a).t Γ) (fun p => if p.1 then (xE g ψ b).t p.2 else none) := rfl
@[simp] theorem xe_or (a b : E) : (xE g ψ (.or_ a b)).e Γ = orL ((xE g ψ a).e Γ) (getB g (ev g a).e Γ) (fun p => if p.1 then none else (xE g ψ b).e p.2) := rfl
@[simp] theorem xt_or (a b : E) : (xE g ψ (.or_ a b)).t Γ = orL ((xE g ψ a).t Γ) ((ev g a).t Γ) (fun p => if p.1 then none else (xE g ψ b).t p.2) := rfl
@[simp] theorem xe_isi (a : E) (t : String) : (xE g ψ (.isi a t)).e Γ = (xE g ψ a).e Γ := rfl
@[simp] theorem xt_isi (a : E) (t : String) : (xE g ψ (.isi a t)).t Γ = (xE g ψ a).e Γ := rfl
@[simp] theorem xe_fld (cs : List Nat) (o : E) (f : Str) : (xE g ψ (.fld cs o f)).e Γ = (xE g ψ o).e Γ := rfl
@[simp] theorem xt_fld (cs : List Nat) (o : E) (f : Str) : (xE g ψ (.fld cs o f)).t Γ = (xE g ψ o).e Γ := rfl
@[simp] theorem xe_mut (m : Mu) (i : Nat) (as : E) : (xE g ψ (.mut m i as)).e Γ = if isLst (Γ.at i) then (xE g ψ as).a Γ else none := rfl
@[simp] theorem xe_andT (a b : E) : (xE g ψ (.andT a b)).e Γ = none := rfl
@[simp] theorem xe_dnew : (xE g ψ .dnew).e Γ = none := rfl
@[simp] theorem xe_sl (a l h : E) : (xE g ψ (.sl a l h)).e Γ = none := rfl
@[simp] theorem xe_comp (vs : List Nat) (it : E) (is : List Nat) (c e : E) : (xE g ψ (.comp vs it is c e)).e Γ = none := rfl
@[simp] theorem xe_get1 (o k : E) : (xE g ψ (.get1 o k)).e Γ = none := rfl
@[simp] theorem xe_get2 (o k x : E) : (xE g ψ (.get2 o k x)).e Γ = none := rfl
@[simp] theorem xe_minD (a : E) : (xE g ψ (.minD a)).e Γ = none := rfl
@[simp] theorem xe_lenSet (a : E) : (xE g ψ (.lenSet a)).e Γ = none := rfl
@[simp] theorem xt_lenSet (a : E) : (xE g ψ (.lenSet a)).t Γ = none := rfl
@[simp] theorem xe_bm (m : Bm) (o as : E) : (xE g ψ (.bm m o as)).e Γ = none := rfl
@[simp] theorem xt_bm (m : Bm) (o as : E) : (xE g ψ (.bm m o as)).t Γ = none := rfl
@[simp] theorem xs_skip : xS ψ g .skip Γ = none := by unfold xS; rfl
@[simp] theorem xs_seq (a b : S) : xS ψ g (.seq a b) Γ = orL (xS ψ g a Γ) (evS g a Γ) (fun o => match o with
    | .nx Γ1 => xS ψ g b Γ1
    | _ => none) := by rw [xS] <;> rfl
@[simp] theorem xs_set (i : Nat) (e : E) : xS ψ g (.set i e) Γ = (xE g ψ e).e Γ := by rw [xS]
@[simp] theorem xs_setk (i : Nat) (e : E) : xS ψ g (.setk i e) Γ = (xE g ψ e).e Γ := by rw [xS]
@[simp] theorem xs_unp (is : List Nat) (e : E) : xS ψ g (.unp is e) Γ = (xE g ψ e).e Γ := by rw [xS]
@[simp] theorem xs_ex (e : E) : xS ψ g (.ex e) Γ = (xE g ψ e).e Γ := by rw [xS]
@[simp] theorem xs_ret (e : E) : xS ψ g (.ret e) Γ = (xE g ψ e).e Γ := by rw [xS]
@[simp] theorem xs_setI (o i e : E) : xS ψ g (.setI o i e) Γ = (xE g ψ e).e Γ := by rw [xS]
@[simp] theorem xs_ite (c : E) (a b : S) : xS ψ g (.ite c a b) Γ = orL ((xE g ψ c).t Γ) ((ev g c).t Γ) (fun p => if p.1 then xS ψ g a p.2 else xS ψ g b p.2) := by rw [xS]
@[simp] theorem xs_for (it : E) (tg : List Nat) (b : S) : xS ψ g (.for_ it tg b) Γ = ((ev g it).i Γ).bind fun p => xforL (bindT g.lk tg) (evS g b) (xS ψ g b) p.1 p.2 := by rw [xS]
@[simp] theorem xs_raise (c : Nat) (f : Str) (e : E) : xS ψ g (.raise c f e) Γ = ((ev g e).e Γ).bind fun p => (getR p.2 p.1).bind fun d => d.fl.map fun v => (⟨c, f, v⟩, p.2) := by rw [xS]
@[simp] theorem xs_aug (i : Nat) (o : BOp) (e : E) : xS ψ g (.aug i o e) Γ = none := by unfold xS; rfl
@[simp] theorem xs_retN : xS ψ g .retN Γ = none := by unfold xS; rfl
@[simp] theorem xs_brk : xS ψ g .brk Γ = none := by unfold xS; rfl
@[simp] theorem xs_cnt : xS ψ g .cnt Γ = none := by unfold xS; rfl
@[simp] theorem xforL_nil (bd : D → Env → Option Env) (body : Env → Option Out) (xb : Xx) : xforL bd body xb [] Γ = none := rfl
@[simp] theorem xforL_cons (bd : D → Env → Option Env) (body : Env → Option Out) (xb : Xx) (x : D) (xs : List D) : xforL bd body xb (x :: xs) Γ = (bd x Γ).bind fun Γ1 => orL (xb Γ1) (body Γ1) (fun o => match o with
    | .nx Γ2 => xforL bd body xb xs Γ2
    | .ct Γ2 => xforL bd body xb xs Γ2
    | _ => none) := rfl
@[simp] theorem es_raise (c : Nat) (f : Str) (e : E) : evS g (.raise c f e) Γ = none := rfl
end
end Dv.Q
namespace Dv
open PySem PySem.Spec L2
/-! ### what can't raise -/
def qE (ok : Nat → Bool) : E → Bool
  | .call f as => ok f && qE ok as
  | .meth _ tbl _ as => tbl.all (fun p => ok p.2) && qE ok as
  | .cons a r => qE ok a && qE ok r
  | .lst as => qE ok as
  | .tup as => qE ok as
  | .bi _ as => qE ok as
  | .bin _ a b => qE ok a && qE ok b
  | .cmp _ a b => qE ok a && qE ok b
  | .idx a b => qE ok a && qE ok b
  | .nt a => qE ok a
  | .and_ a b => qE ok a && qE ok b
  | .or_ a b => qE ok a && qE ok b
  | .isi a _ => qE ok a
  | .fld _ o _ => qE ok o
  | .mut _ _ as => qE ok as
  | _ => true
def Qt (x : Xev) : Prop := (∀ Γ, x.e Γ = none) ∧ (∀ Γ, x.a Γ = none) ∧ ∀ Γ, x.t Γ = none
theorem qt_no : Qt ⟨no, no, no⟩ := ⟨fun _ => rfl, fun _ => rfl, fun _ => rfl⟩
theorem qt_mk {x : Xx} (h : ∀ Γ, x Γ = none) : Qt (xmk x) := ⟨h, fun _ => rfl, h⟩
theorem qel {α β : Type} {x : Option β} {o : Option α} {k : α → Option β} (h1 : x = none) (h2 : ∀ a, k a = none) : orL x o k = none := by
  cases o with
  | none => exact h1
  | some a => exact h2 a
theorem qbind {α β : Type} {a : Option α} {f : α → Option β} (h : ∀ x, f x = none) : a.bind f = none := by cases a <;> simp [h]
theorem q2 {xa xb : Xx} {a : Env → Option (R × Env)} (ha : ∀ Γ, xa Γ = none) (hb : ∀ Γ, xb Γ = none) : ∀ Γ, x2 xa a xb Γ = none := fun Γ => qel (ha Γ) (fun p => hb p.2)
theorem callX_none {g : Cfg} {ψ : Nat → Semx} {f : Nat} (h : ∀ ds, ψ f ds = none) (rs : List R) (Γ : Env) : callX g ψ f rs Γ = none := by
  unfold callX
  split
  · split
    · exact qbind fun ds => by rw [h]; rfl
    · rfl
  · refine qbind fun Γ1 => ?_
    split
    · exact qbind fun ds => by rw [h]; rfl
    · rfl
theorem meth_mem {m : Str} {tbl : List (Nat × Nat)} {d : D} {f : Nat} (h : methD m tbl d = some f) : ∃ p ∈ tbl, p.2 = f := by
  unfold methD at h
  split at h
  · split at h
    · cases h
    · rename_i c ns xs _
      have key : ∀ {l : List (Nat × Nat)}, l.lookup c = some f → ∃ p ∈ l, p.2 = f := by
        intro l
        induction l with
        | nil => intro e; cases e
        | cons q l ih =>
          obtain ⟨a, b⟩ := q
          intro e
          rw [List.lookup_cons] at e
          split at e
          · exact ⟨(a, b), List.mem_cons_self, Option.some.inj e⟩
          · obtain ⟨p, h1, h2⟩ := ih e
            exact ⟨p, List.mem_cons_of_mem _ h1, h2⟩
      exact key h
  · cases h
theorem qE_ok {g : Cfg} {ψ : Nat → Semx} {ok : Nat → Bool} (hψ : ∀ f, ok f = true → ∀ ds, ψ f ds = none) : ∀ e : E, qE ok e = true → Qt (xE g ψ e) := by
  intro e
  induction e with
  | call f as ih =>
    intro h
    simp only [qE, Bool.and_eq_true] at h
    exact qt_mk fun Γ => qel ((ih h.2).2.1 Γ) (fun p => callX_none (hψ f h.1) _ _)
  | meth m tbl o as iho ih =>
    intro h
    simp only [qE, Bool.and_eq_true] at h
    refine qt_mk fun Γ => qbind fun p => qbind fun d => ?_
    cases hm : methD m tbl d with
    | none => rfl
    | some f =>
      obtain ⟨q, h1, h2⟩ := meth_mem hm
      have := List.all_eq_true.mp h.1 q h1
      rw [h2] at this
      exact qel ((ih h.2).2.1 _) (fun p => callX_none (hψ f this) _ _)
  | cons a r iha ihr =>
    intro h
    simp only [qE, Bool.and_eq_true] at h
    exact ⟨fun _ => rfl, q2 (iha h.1).1 (ihr h.2).2.1, fun _ => rfl⟩
  | lst as ih => intro h; exact qt_mk (ih h).2.1
  | tup as ih => intro h; exact qt_mk (ih h).2.1
  | bi f as ih => intro h; exact qt_mk (ih h).2.1
  | bin o a b iha ihb =>
    intro h
    simp only [qE, Bool.and_eq_true] at h
    exact qt_mk (q2 (iha h.1).1 (ihb h.2).1)
  | cmp o a b iha ihb =>
    intro h
    simp only [qE, Bool.and_eq_true] at h
    exact qt_mk (q2 (iha h.1).1 (ihb h.2).1)
  | idx a b iha ihb =>
    intro h
    simp only [qE, Bool.and_eq_true] at h
    exact qt_mk (q2 (iha h.1).1 (ihb h.2).1)
  | nt a ih => intro h; exact ⟨(ih h).1, fun _ => rfl, (ih h).2.2⟩
  | and_ a b iha ihb =>
    intro h
    simp only [qE, Bool.and_eq_true] at h
    refine ⟨fun Γ => qel ((iha h.1).1 Γ) (fun p => ?_), fun _ => rfl, fun Γ => qel ((iha h.1).2.2 Γ) (fun p => ?_)⟩
    · split
      · exact (ihb h.2).1 _
      · rfl
    · split
      · exact (ihb h.2).2.2 _
      · rfl
  | or_ a b iha ihb =>
    intro h
    simp only [qE, Bool.and_eq_true] at h
    refine ⟨fun Γ => qel ((iha h.1).1 Γ) (fun p => ?_), fun _ => rfl, fun Γ => qel ((iha h.1).2.2 Γ) (fun p => ?_)⟩
    · split
      · rfl
      · exact (ihb h.2).1 _
    · split
      · rfl
      · exact (ihb h.2).2.2 _
  | isi a t ih => intro h; exact qt_mk (ih h).1
  | fld cs o f ih => intro h; exact qt_mk (ih h).1
  | «mut» m i as ih =>
    intro h
    refine qt_mk fun Γ => ?_
    show (if isLst (Γ.at i) then (xE g ψ as).a Γ else none) = none
    split
    · exact (ih h).2.1 Γ
    · rfl
  | _ => intro _; exact qt_no
def qS (ok : Nat → Bool) : S → Bool
  | .seq a b => qS ok a && qS ok b
  | .set _ e => qE ok e
  | .setk _ e => qE ok e
  | .unp _ e => qE ok e
  | .ex e => qE ok e
  | .ret e => qE ok e
  | .setI _ _ e => qE ok e
  | .ite c a b => qE ok c && (qS ok a && qS ok b)
  | .for_ _ _ b => qS ok b
  | .whl c b => qE ok c && qS ok b
  | .raise _ _ _ => false
  | _ => true
theorem qfor {bd : D → Env → Option Env} {body : Env → Option Out} {xb : Xx} (h : ∀ Γ, xb Γ = none) : ∀ (xs : List D) (Γ : Env), xforL bd body xb xs Γ = none
  | [], _ => rfl
  | x :: xs, Γ => qbind fun Γ1 => qel (h Γ1) (fun o => by cases o <;> first | exact qfor h xs _ | rfl)
theorem qwhl {c : Env → Option (Bool × Env)} {xc : Xx} {body : Env → Option Out} {xb : Xx} (hc : ∀ Γ, xc Γ = none) (h : ∀ Γ, xb Γ = none) : ∀ (n : Nat) (Γ : Env), xwhlL c xc body xb n Γ = none
  | 0, _ => rfl
  | n + 1, Γ => qel (hc Γ) (fun p => by
      split
      · exact qel (h _) (fun o => by cases o <;> first | exact qwhl hc h n _ | rfl)
      · rfl)
theorem qS_ok {ψ : Nat → Semx} {ok : Nat → Bool} (hψ : ∀ f, ok f = true → ∀ ds, ψ f ds = none) : ∀ (s : S) (g : Cfg) (Γ : Env), qS ok s = true → xS ψ g s Γ = none := by
  intro s
  induction s with
  | seq a b iha ihb =>
    intro g Γ h
    simp only [qS, Bool.and_eq_true] at h
    rw [Q.xs_seq]
    refine qel (iha g Γ h.1) (fun o => ?_)
    cases o <;> first | exact ihb g _ h.2 | rfl
  | set i e => intro g Γ h; rw [Q.xs_set]; exact (qE_ok hψ e h).1 Γ
  | setk i e => intro g Γ h; rw [Q.xs_setk]; exact (qE_ok hψ e h).1 Γ
  | unp i e => intro g Γ h; rw [Q.xs_unp]; exact (qE_ok hψ e h).1 Γ
  | ex e => intro g Γ h; rw [Q.xs_ex]; exact (qE_ok hψ e h).1 Γ
  | ret e => intro g Γ h; rw [Q.xs_ret]; exact (qE_ok hψ e h).1 Γ
  | setI o i e => intro g Γ h; rw [Q.xs_setI]; exact (qE_ok hψ e h).1 Γ
  | ite c a b iha ihb =>
    intro g Γ h
    simp only [qS, Bool.and_eq_true] at h
    rw [Q.xs_ite]
    refine qel ((qE_ok hψ c h.1).2.2 Γ) (fun p => ?_)
    split
    · exact iha g _ h.2.1
    · exact ihb g _ h.2.2
  | for_ it tg b ih =>
    intro g Γ h
    rw [Q.xs_for]
    exact qbind fun p => qfor (fun Γ => ih g Γ h) _ _
  | whl c b ih =>
    intro g Γ h
    simp only [qS, Bool.and_eq_true] at h
    show xS ψ g (.whl c b) Γ = none
    rw [xS]
    exact qwhl (fun Γ => (qE_ok hψ c h.1).2.2 Γ) (fun Γ => ih g Γ h.2) _ _
  | raise c f e => intro g Γ h; cases h
  | _ => intro g Γ _; unfold xS; rfl
theorem xF_none {g : Cfg} {ψ : Nat → Semx} {ok : Nat → Bool} {f : Fn} (hψ : ∀ f, ok f = true → ∀ ds, ψ f ds = none) (h : qS ok f.body = true) (ds : List D) : xF g ψ f ds = none := by
  unfold xF xvX
  split
  · rw [qS_ok hψ f.body _ _ h]; rfl
  · rfl
end Dv
namespace Dv.Q
open PySem PySem.Spec L2 Dv
/-! ### what is raised within while loops -/
section
variable {g : Cfg} {ψ : Nat → Semx} {Γ : Env}
@[simp] theorem xs_whl (c : E) (b : S) : xS ψ g (.whl c b) Γ = xwhlL (ev g c).t (xE g ψ c).t (evS g b) (xS ψ g b) g.fuel Γ := by rw [xS]
@[simp] theorem xs_augF (i : Nat) (cs : List Nat) (f : Str) (e : E) : xS ψ g (.augF i cs f e) Γ = none := by unfold xS; rfl
@[simp] theorem xs_setF (i : Nat) (cs : List Nat) (f : Str) (e : E) : xS ψ g (.setF i cs f e) Γ = none := by unfold xS; rfl
@[simp] theorem xs_par (tg : List Nat) (as : E) : xS ψ g (.par tg as) Γ = none := by unfold xS; rfl
@[simp] theorem xe_new (c f : Nat) (as : E) : (xE g ψ (.new c f as)).e Γ = none := rfl
@[simp] theorem xe_neg (a : E) : (xE g ψ (.neg a)).e Γ = none := rfl
@[simp] theorem xe_ite (c a b : E) : (xE g ψ (.ite c a b)).e Γ = none := rfl
@[simp] theorem xe_partn (a b : E) : (xE g ψ (.partn a b)).e Γ = none := rfl
@[simp] theorem xe_compV (vs : List Nat) (i : Nat) (is : List Nat) (c e : E) : (xE g ψ (.compV vs i is c e)).e Γ = none := rfl
@[simp] theorem xt_tup (as : E) : (xE g ψ (.tup as)).t Γ = (xE g ψ as).a Γ := rfl
theorem whl_hit {c : Env → Option (Bool × Env)} {body : Env → Option Out} {f : Nat} {Γ Γ1 : Env} (h1 : c Γ = some (true, Γ1)) (h2 : body Γ1 = none) : whlL c body (f + 1) Γ = none := by
  show (c Γ).bind _ = _
  rw [h1]
  show (body Γ1).bind _ = _
  rw [h2]
  rfl
theorem xwhl_go {c : Env → Option (Bool × Env)} {xc xb : Xx} {body : Env → Option Out} {f : Nat} {Γ Γ1 Γ2 : Env} (h1 : c Γ = some (true, Γ1)) (h2 : body Γ1 = some (.nx Γ2)) : xwhlL c xc body xb (f + 1) Γ = xwhlL c xc body xb f Γ2 := by
  show orL (xc Γ) (c Γ) _ = _
  rw [h1]
  show orL (xb Γ1) (body Γ1) _ = _
  rw [h2]
  rfl
theorem xwhl_hit {c : Env → Option (Bool × Env)} {xc xb : Xx} {body : Env → Option Out} {f : Nat} {Γ Γ1 : Env} (h1 : c Γ = some (true, Γ1)) (h2 : body Γ1 = none) : xwhlL c xc body xb (f + 1) Γ = xb Γ1 := by
  show orL (xc Γ) (c Γ) _ = _
  rw [h1]
  show orL (xb Γ1) (body Γ1) _ = _
  rw [h2]
  rfl
theorem xwhl_end {c : Env → Option (Bool × Env)} {xc xb : Xx} {body : Env → Option Out} {f : Nat} {Γ Γ1 : Env} (h1 : c Γ = some (false, Γ1)) : xwhlL c xc body xb (f + 1) Γ = none := by
  show orL (xc Γ) (c Γ) _ = _
  rw [h1]
  rfl
end
end Dv.Q
namespace Dv
open PySem PySem.Spec L2
/-! ### a told form, its list of rules made longer -/
def spForm (Γ : Env) (i : Nat) : Bool := match Γ.at i with
  | some (.nw (.tup [_, .nw (.lst ds)]), false) => decide (ds.length ≤ 100000)
  | _ => false
theorem spForm_ok {Γ : Env} {i : Nat} (h : spForm Γ i = true) : ∃ x ds, Γ.at i = some (.nw (.tup [x, .nw (.lst ds)]), false) ∧ ds.length ≤ 100000 := by
  unfold spForm at h
  split at h
  · rename_i x ds e
    exact ⟨x, ds, e, of_decide_eq_true h⟩
  · cases h
section
variable {c0 : Ct0} {Φ : Pm}
theorem spo_form {i : Nat} {w w' : Str} {ws : List Nat} {Γ0 Γ : Env} (h : spForm Γ i = true) : SpoOk c0 ws (trS c0.K Φ (.ex (.mutE .append (.idx (.var i) (.cst (.int 1))) (.cons (.tup (.cons (.cst (.str w)) (.cons (.tup (.cons (.cst (.str w')) .nil)) .nil))) .nil)))) Γ0 Γ := by
  obtain ⟨x, ds, e1, a1⟩ := spForm_ok h
  intro cl σ M H hc ok _ D q
  subst hc
  obtain ⟨v1, s1, r1⟩ := ok.slot i _ _ e1
  have r1 : Rep cl M (.nw (.tup [x, .nw (.lst ds)])) v1 := r1
  refine ⟨v1, s1, ?_⟩
  refine idx_ok (cl := cl) (M := M) (x := .tup [x, .nw (.lst ds)]) (y := .int 1) ok.sub (r1.one ok.sub) (.inl rfl) rfl fun w2 rw_ => ?_
  obtain ⟨⟨p, us, rfl, m, ru⟩, p', ep, np⟩ := rw_
  cases ep
  have hp : H p = some (.lst us) := ok.sub p _ m
  have lu : us.length = ds.length := ru.length.symm
  have sz : 300000 < sizeLine := by decide
  refine ⟨.inl ⟨rfl, _, SqL.of hp⟩, ?_⟩
  refine ⟨by show 1 ≤ sizeLine; omega, fun p1 hp1 => ⟨by show 2 ≤ sizeLine; omega, fun p2 hp2 => ?_⟩⟩
  have n1 : p1 ≠ p := fun z => by rw [z, hp] at hp1; cases hp1
  have n2 : p2 ≠ p := fun z => by rw [z, upd_ne (Ne.symm n1), hp] at hp2; cases hp2
  have hp2' : H p2 = none ∧ p2 ≠ p1 := by
    by_cases g : p2 = p1
    · rw [g, upd_same] at hp2; cases hp2
    · rw [upd_ne g] at hp2; exact ⟨hp2, g⟩
  refine ⟨p, us, .ref p2, rfl, rfl, by rw [upd_ne (Ne.symm n2), upd_ne (Ne.symm n1)]; exact hp, by omega, ?_⟩
  refine q σ _ (fun b o h nb => ?_) (fun b h => ?_) (fun _ _ => rfl) rfl
  · have g1 : b ≠ p := fun z => nb (z ▸ np)
    rw [upd_ne g1, upd_ne (fun z => by rw [z, hp2'.1] at h; cases h), upd_ne (fun z => by rw [z, hp1] at h; cases h)]
    exact h
  · by_cases g1 : b = p
    · rw [g1, upd_same]; exact fun z => nomatch z
    · rw [upd_ne g1]
      by_cases g2 : b = p2
      · rw [g2, upd_same]; exact fun z => nomatch z
      · rw [upd_ne g2]
        by_cases g3 : b = p1
        · rw [g3, upd_same]; exact fun z => nomatch z
        · rw [upd_ne g3]; exact h
end
end Dv
namespace Dv
open PySem PySem.Spec L2
/-! ### told paths: each made longer, and the list of them -/
def isI : D → Bool
  | .int _ => true
  | _ => false
def nwI : D → Bool
  | .nw (.lst l) => l.all isI && decide (l.length ≤ 100000)
  | _ => false
def spPaths (ws : List Nat) (Γ : Env) (i j j' i' : Nat) : Bool := decide (j' = j ∧ i' = i ∧ i ≠ j ∧ j < Γ.length ∧ j ∈ ws) && match Γ.at i with
  | some (.nw (.lst ds), false) => ds.all nwI && decide (ds.length ≤ 100000)
  | _ => false
section
variable {c0 : Ct0} {Φ : Pm} {cl : Ct}
def NwI (cl : Ct) (M : Hp) (p : Addr) : Prop := cl.N p ∧ ∃ l : List V, M p = some (.lst l) ∧ (∀ v ∈ l, ∃ s, v = V.int s) ∧ l.length ≤ 100000
theorem reps_ints' {M : Hp} : ∀ {l : List D} {vs : List V}, Reps cl M l vs → l.all isI = true → ∀ v ∈ vs, ∃ s, v = V.int s
  | [], vs, r, _, v, hv => by cases r; cases hv
  | d :: l, _, ⟨u, us, rfl, a, b⟩, h, v, hv => by
    simp only [List.all_cons, Bool.and_eq_true] at h
    rcases List.mem_cons.mp hv with rfl | hv
    · cases d <;> simp [isI] at h
      exact ⟨_, a⟩
    · exact reps_ints' b h.2 v hv
theorem nwI_ok {M : Hp} {d : D} {v : V} (h : nwI d = true) (r : Rep cl M d v) : ∃ p, v = .ref p ∧ NwI cl M p := by
  unfold nwI at h
  split at h
  · rename_i l
    simp only [Bool.and_eq_true, decide_eq_true_eq] at h
    obtain ⟨⟨p, vs, rfl, m, rr⟩, p', e, n⟩ := r
    cases e
    exact ⟨p, rfl, n, vs, m, reps_ints' rr h.1, by rw [← rr.length]; exact h.2⟩
  · cases h
structure Sp4 (cl : Ct) (M H : Hp) (a : Addr) (us : List V) (c : Nat) (H' : Hp) : Prop where
  k1 : ∀ b o, H b = some o → ¬ cl.N b → H' b = some o
  k2 : ∀ b, H b ≠ none → H' b ≠ none
  k3 : H' a = some (.lst us)
  k5 : ∀ p, NwI cl M p → ∃ l', H' p = some (.lst l') ∧ l'.length ≤ 100000 + c
theorem Sp4.put {M H H' : Hp} {a p : Addr} {us l : List V} {c : Nat} (g : Sp4 cl M H a us c H') (hp : NwI cl M p) (ha : M a = some (.lst us)) (hus : ∃ q, V.ref q ∈ us) (hl : l.length ≤ 100000 + (c + 1)) : Sp4 cl M H a us (c + 1) (upd H' p (.lst l)) := by
  obtain ⟨n, l0, m, hs, _⟩ := hp
  have na : a ≠ p := fun z => by
    rw [← z, ha] at m
    cases m
    obtain ⟨q, hq⟩ := hus
    obtain ⟨s, e⟩ := hs _ hq
    cases e
  refine ⟨fun b o h nb => ?_, fun b h => ?_, by rw [upd_ne na]; exact g.k3, fun q hq => ?_⟩
  · rw [upd_ne fun z => nb (by rw [z]; exact n)]
    exact g.k1 b o h nb
  · by_cases z : b = p
    · rw [z, upd_same]; exact fun z => nomatch z
    · rw [upd_ne z]; exact g.k2 b h
  · by_cases z : q = p
    · rw [z, upd_same]; exact ⟨l, rfl, hl⟩
    · obtain ⟨l', e, hl'⟩ := g.k5 q hq
      rw [upd_ne z]
      exact ⟨l', e, by omega⟩
theorem spo_paths {i j j' i' : Nat} {w0 w' : V} {ws : List Nat} {Γ0 Γ : Env} (h : spPaths ws Γ i j j' i' = true) :
    SpoOk c0 ws (trS c0.K Φ (.seq (.for_ (.itL (.var i)) [j] (.ex (.mut .append j' (.cons (.cst w0) .nil)))) (.ex (.mut .append i' (.cons (.lst (.cons (.cst w') .nil)) .nil))))) Γ0 Γ := by
  unfold spPaths at h
  obtain ⟨h1, h2⟩ := Bool.and_eq_true_iff.mp h
  obtain ⟨rfl, rfl, nij, lj, wj⟩ := of_decide_eq_true h1
  obtain ⟨ds, e, h3, h5⟩ : ∃ ds, Γ.at i' = some (.nw (.lst ds), false) ∧ ds.all nwI = true ∧ ds.length ≤ 100000 := by
    split at h2
    · rename_i ds e
      obtain ⟨a, b⟩ := Bool.and_eq_true_iff.mp h2
      exact ⟨ds, e, a, of_decide_eq_true b⟩
    · cases h2
  intro cl σ M H hc ok _ D q
  obtain ⟨v, s, r⟩ := ok.slot i' _ _ e
  have r : Rep cl M (.nw (.lst ds)) v := r
  have sz : 300000 < sizeLine := by decide
  subst hc
  obtain ⟨⟨a, us, rfl, m, ru⟩, a', ea, hna⟩ := r
  cases ea
  have hus : us.length = ds.length := ru.length.symm
  have ha : H a = some (.lst us) := ok.sub a _ m
  have hi := at_lt e
  have lσ : Γ.length = σ.length := ok.len
  let Sl : St → Prop := fun σ' => σ'.length = σ.length ∧ ∀ z, z ∉ ws → σ'[z]? = σ[z]?
  let Inv : Nat → Nat → St → Hp → Prop := fun z w σ' H' => (Sl σ' ∧ σ'[i']? = some (some (V.ref a))) ∧ Sp4 cl M H a us z H' ∧ w = us.length - z ∧ z ≤ us.length
  have g0 : Sp4 cl M H a us 0 H := ⟨fun _ _ h _ => h, fun _ h => h, ha, fun p ⟨_, l, m, _, hl⟩ => ⟨l, ok.sub p _ m, by omega⟩⟩
  refine ⟨V.ref a, s, a, rfl, ⟨_, SqL.of ha⟩, Inv, ⟨_, ⟨⟨rfl, fun _ _ => rfl⟩, s⟩, g0, rfl, Nat.zero_le _⟩, ?_⟩
  rintro z w σ' H' ⟨⟨⟨sl1, sl2⟩, sl3⟩, gz, rfl, hz⟩
  by_cases hlt : z < us.length
  · obtain ⟨x, hx⟩ : ∃ x, us[z]? = some x := ⟨_, List.getElem?_eq_getElem (by omega)⟩
    refine .inr ⟨⟨_, x, SqL.of gz.k3, hx⟩, fun σ2 H2 => Inv (z + 1) (us.length - (z + 1)) σ2 H2, fun σ2 H2 h => ⟨_, by omega, h⟩, ?_⟩
    rintro x' H2 ⟨rfl, hy⟩
    have := hy _ (SqL.of gz.k3)
    rw [hx] at this
    cases this
    obtain ⟨dx, hdx⟩ : ∃ dx, ds[z]? = some dx := ⟨_, List.getElem?_eq_getElem (by omega)⟩
    obtain ⟨w, ew, rw'⟩ := ru.get hdx
    rw [hx] at ew
    cases ew
    have i1 := List.all_eq_true.mp h3 dx (List.mem_of_getElem? hdx)
    obtain ⟨p, rfl, hp⟩ := nwI_ok i1 rw'
    obtain ⟨l, el, le⟩ := gz.k5 p hp
    have ss : (σ'.set j' (some (V.ref p)))[j']? = some (some (V.ref p)) := List.getElem?_set_self (by rw [sl1, ← ok.len]; exact lj)
    refine ⟨V.ref p, ss, .inl ⟨rfl, _, SqL.of el⟩, p, l, w0, rfl, rfl, el, by omega, ?_⟩
    have g3 := gz.put (l := l ++ [w0]) hp m ⟨p, List.mem_of_getElem? hx⟩ (by rw [List.length_append, List.length_singleton]; omega)
    refine ⟨⟨⟨by rw [List.length_set]; exact sl1, fun g hg => ?_⟩, ?_⟩, g3, rfl, by omega⟩
    · rw [List.getElem?_set_ne fun z => hg (by rw [← z]; exact wj)]
      exact sl2 g hg
    · rw [List.getElem?_set_ne (Ne.symm nij), sl3]
  · refine .inl ⟨⟨_, SqL.of gz.k3, by omega⟩, ?_⟩
    have ha' := gz.k3
    refine ⟨V.ref a, sl3, .inl ⟨rfl, _, SqL.of ha'⟩, ?_⟩
    refine ⟨by show 1 ≤ sizeLine; omega, fun p1 hp1 => ?_⟩
    have n1 : p1 ≠ a := fun z => by rw [z, ha'] at hp1; cases hp1
    refine ⟨a, us, .ref p1, rfl, rfl, by rw [upd_ne (Ne.symm n1)]; exact ha', by omega, ?_⟩
    refine q _ _ (fun b o h nb => ?_) (fun b h => ?_) sl2 sl1
    · have g1 : b ≠ a := fun z => nb (z ▸ hna)
      have h2 := gz.k1 b o h nb
      rw [upd_ne g1, upd_ne (fun z => by rw [z, hp1] at h2; cases h2)]
      exact h2
    · have h2 := gz.k2 b h
      by_cases g1 : b = a
      · rw [g1, upd_same]; exact fun z => nomatch z
      · rw [upd_ne g1]
        by_cases g3 : b = p1
        · rw [g3, upd_same]; exact fun z => nomatch z
        · rw [upd_ne g3]; exact h2
end
end Dv
namespace Dv
open PySem PySem.Spec L2
/-! ### rows built within one another: a pile of lists, each the last one's last part -/
inductive Rw where
  | tx (s : Str)
  | tp (n : Str) (r : List Rw)
mutual
def dW : Rw → D
  | .tx s => .str s
  | .tp n r => .nw (.tup [.str n, .nw (.lst (dWs r))])
def dWs : List Rw → List D
  | [] => []
  | p :: r => dW p :: dWs r
end
abbrev Stk := List (Str × List Rw)
def addS (p : Rw) : Stk → Stk
  | (n, r) :: st => (n, r ++ [p]) :: st
  | [] => []
def closeS : Stk → Stk
  | (n, r) :: (m, q) :: st => (m, q ++ [.tp n r]) :: st
  | st => st
def rowS : Stk → List Rw
  | [] => []
  | [(_, r)] => r
  | (n, r) :: (m, q) :: st => rowS ((m, q ++ [.tp n r]) :: st)
termination_by st => st.length
mutual
def PartH (H : Hp) : Rw → V → List Addr → Prop
  | .tx s, v, F => v = .str s ∧ F = []
  | .tp n r, v, F => ∃ t b us G, v = .ref t ∧ H t = some (.tup [.str n, .ref b]) ∧ H b = some (.lst us) ∧ PartsH H r us G ∧ F = t :: b :: G
def PartsH (H : Hp) : List Rw → List V → List Addr → Prop
  | [], vs, F => vs = [] ∧ F = []
  | p :: r, vs, F => ∃ v us F1 F2, vs = v :: us ∧ PartH H p v F1 ∧ PartsH H r us F2 ∧ F = F1 ++ F2
end
mutual
theorem PartH.frame {H H' : Hp} : ∀ {p : Rw} {v : V} {F : List Addr}, PartH H p v F → (∀ a ∈ F, H' a = H a) → PartH H' p v F
  | .tx s, v, F, h, _ => h
  | .tp n r, v, F, ⟨t, b, us, G, e1, e2, e3, e4, e5⟩, hf => by
    subst e5
    exact ⟨t, b, us, G, e1, by rw [hf t (by simp)]; exact e2, by rw [hf b (by simp)]; exact e3, PartsH.frame e4 fun a ha => hf a (by simp [ha]), rfl⟩
theorem PartsH.frame {H H' : Hp} : ∀ {r : List Rw} {vs : List V} {F : List Addr}, PartsH H r vs F → (∀ a ∈ F, H' a = H a) → PartsH H' r vs F
  | [], vs, F, h, _ => h
  | p :: r, vs, F, ⟨v, us, F1, F2, e1, e2, e3, e4⟩, hf => by
    subst e4
    exact ⟨v, us, F1, F2, e1, e2.frame fun a ha => hf a (List.mem_append_left _ ha), e3.frame fun a ha => hf a (List.mem_append_right _ ha), rfl⟩
end
theorem PartsH.app {H : Hp} : ∀ {r q : List Rw} {us vs : List V} {F G : List Addr}, PartsH H r us F → PartsH H q vs G → PartsH H (r ++ q) (us ++ vs) (F ++ G)
  | [], q, us, vs, F, G, ⟨e1, e2⟩, h => by subst e1 e2; exact h
  | p :: r, q, us, vs, F, G, ⟨v, us', F1, F2, e1, e2, e3, e4⟩, h => by
    subst e1 e4
    exact ⟨v, us' ++ vs, F1, F2 ++ G, rfl, e2, e3.app h, by rw [List.append_assoc]⟩
theorem PartsH.len {H : Hp} : ∀ {r : List Rw} {us : List V} {F : List Addr}, PartsH H r us F → us.length = r.length
  | [], us, F, ⟨e1, e2⟩ => by rw [e1]; rfl
  | p :: r, us, F, ⟨v, us', F1, F2, e1, e2, e3, e4⟩ => by rw [e1, List.length_cons, List.length_cons, e3.len]
theorem PartsH.one {H : Hp} {p : Rw} {v : V} {F : List Addr} (h : PartH H p v F) : PartsH H [p] [v] F := ⟨v, [], F, [], rfl, h, ⟨rfl, rfl⟩, by simp⟩
section
variable {cl : Ct}
mutual
theorem PartH.rep {H M : Hp} : ∀ {p : Rw} {v : V} {F : List Addr}, PartH H p v F → (∀ a ∈ F, M a = H a ∧ cl.N a) → Rep cl M (dW p) v
  | .tx s, v, F, h, _ => h.1
  | .tp n r, v, F, ⟨t, b, us, G, e1, e2, e3, e4, e5⟩, hf => by
    subst e5
    have ht := hf t (by simp)
    have hb := hf b (by simp)
    have i := PartsH.rep (M := M) e4 fun a ha => hf a (by simp [ha])
    exact ⟨⟨t, _, e1, ht.1.trans e2, Reps.cons rfl (Reps.cons ⟨⟨b, us, rfl, hb.1.trans e3, i⟩, b, rfl, hb.2⟩ Reps.nil)⟩, t, e1, ht.2⟩
theorem PartsH.rep {H M : Hp} : ∀ {r : List Rw} {us : List V} {F : List Addr}, PartsH H r us F → (∀ a ∈ F, M a = H a ∧ cl.N a) → Reps cl M (dWs r) us
  | [], us, F, ⟨e1, e2⟩, _ => by rw [e1]; exact Reps.nil
  | p :: r, us, F, ⟨v, us', F1, F2, e1, e2, e3, e4⟩, hf => by
    subst e1 e4
    exact Reps.cons (e2.rep fun a ha => hf a (List.mem_append_left _ ha)) (e3.rep fun a ha => hf a (List.mem_append_right _ ha))
end
end
/-- the pile, the last list first: its lists' addresses, what stands behind the last list's parts, all addresses -/
def StkH (H : Hp) : Stk → List Addr → List V → List Addr → Prop
  | [], _, _, _ => False
  | [(_, r)], as, ex, F => ∃ a us G, as = [a] ∧ H a = some (.lst (us ++ ex)) ∧ PartsH H r us G ∧ F = a :: G
  | (n, r) :: s :: st, as, ex, F => ∃ a as' us G t F', as = a :: as' ∧ H a = some (.lst (us ++ ex)) ∧ PartsH H r us G ∧ H t = some (.tup [.str n, .ref a]) ∧ StkH H (s :: st) as' [.ref t] F' ∧ F = a :: t :: (G ++ F')
theorem StkH.frame {H H' : Hp} : ∀ {st : Stk} {as : List Addr} {ex : List V} {F : List Addr}, StkH H st as ex F → (∀ a ∈ F, H' a = H a) → StkH H' st as ex F
  | [], _, _, _, h, _ => h
  | [(n, r)], as, ex, F, ⟨a, us, G, e1, e2, e3, e4⟩, hf => by
    subst e4
    exact ⟨a, us, G, e1, by rw [hf a (by simp)]; exact e2, e3.frame fun x hx => hf x (by simp [hx]), rfl⟩
  | (n, r) :: s :: st, as, ex, F, ⟨a, as', us, G, t, F', e1, e2, e3, e4, e5, e6⟩, hf => by
    subst e6
    exact ⟨a, as', us, G, t, F', e1, by rw [hf a (by simp)]; exact e2, e3.frame fun x hx => hf x (by simp [hx]), by rw [hf t (by simp)]; exact e4, e5.frame fun x hx => hf x (by simp [hx]), rfl⟩
theorem StkH.len {H : Hp} : ∀ {st : Stk} {as : List Addr} {ex : List V} {F : List Addr}, StkH H st as ex F → as.length = st.length
  | [], _, _, _, h => h.elim
  | [(n, r)], as, ex, F, ⟨a, us, G, e1, _⟩ => by rw [e1]; rfl
  | (n, r) :: s :: st, as, ex, F, ⟨a, as', us, G, t, F', e1, e2, e3, e4, e5, e6⟩ => by
    have := StkH.len e5
    rw [e1, List.length_cons, List.length_cons, this]
/-- the last list, and how it may be changed -/
theorem StkH.top {H : Hp} {st : Stk} {as : List Addr} {F : List Addr} (h : StkH H st as [] F) (nd : F.Nodup) : ∃ a as' us n r st', as = a :: as' ∧ st = (n, r) :: st' ∧ a ∈ F ∧ H a = some (.lst us) ∧ us.length = r.length ∧
    ∀ (H' : Hp) (ex : List V) (q : List Rw) (vs : List V), PartsH H' q vs [] → H' a = some (.lst (us ++ vs ++ ex)) → (∀ x ∈ F, x ≠ a → H' x = H x) → StkH H' ((n, r ++ q) :: st') as ex F := by
  match st, h with
  | [(n, r)], ⟨a, us, G, e1, e2, e3, e4⟩ =>
    subst e4
    rw [List.append_nil] at e2
    refine ⟨a, [], us, n, r, [], e1, rfl, by simp, e2, e3.len, fun H' ex q vs hq ha hf => ?_⟩
    have na : ∀ x ∈ G, x ≠ a := fun x hx z => (List.nodup_cons.mp nd).1 (z ▸ hx)
    have e3' := (e3.frame (H' := H') fun x hx => hf x (by simp [hx]) (na x hx)).app hq
    rw [List.append_nil] at e3'
    exact ⟨a, us ++ vs, G, e1, ha, e3', rfl⟩
  | (n, r) :: s :: st, ⟨a, as', us, G, t, F', e1, e2, e3, e4, e5, e6⟩ =>
    subst e6
    rw [List.append_nil] at e2
    refine ⟨a, as', us, n, r, s :: st, e1, rfl, by simp, e2, e3.len, fun H' ex q vs hq ha hf => ?_⟩
    have na : ∀ x ∈ t :: (G ++ F'), x ≠ a := fun x hx z => (List.nodup_cons.mp nd).1 (z ▸ hx)
    have e3' := (e3.frame (H' := H') fun x hx => hf x (by simp [hx]) (na x (by simp [hx]))).app hq
    rw [List.append_nil] at e3'
    exact ⟨a, as', us ++ vs, G, t, F', e1, ha, e3', by rw [hf t (by simp) (na t (by simp))]; exact e4, e5.frame fun x hx => hf x (by simp [hx]) (na x (by simp [hx])), rfl⟩
/-- the last list closed -/
theorem StkH.close {H : Hp} {st : Stk} {as : List Addr} {F : List Addr} (h : StkH H st as [] F) (hl : 1 < st.length) : ∃ a as' F2, as = a :: as' ∧ as' ≠ [] ∧ F.Perm F2 ∧ StkH H (closeS st) as' [] F2 := by
  match st, h with
  | [(n, r)], _ => simp at hl
  | (n, r) :: (m, q) :: st, ⟨a, as', us, G, t, F', e1, e2, e3, e4, e5, e6⟩ =>
    subst e6
    rw [List.append_nil] at e2
    have p : PartH H (.tp n r) (.ref t) (t :: a :: G) := ⟨t, a, us, G, rfl, e4, e2, e3, rfl⟩
    match st, e5 with
    | [], ⟨b, us2, G2, f1, f2, f3, f4⟩ =>
      subst f4
      refine ⟨a, as', b :: (G2 ++ t :: a :: G), e1, by rw [f1]; simp, ?_, b, us2 ++ [.ref t], G2 ++ t :: a :: G, f1, by rw [List.append_nil]; exact f2, f3.app (PartsH.one p), rfl⟩
      have h1 : (a :: t :: (G ++ b :: G2)).Perm (t :: a :: (G ++ b :: G2)) := List.Perm.swap ..
      refine h1.trans ?_
      have h2 : (t :: a :: G ++ b :: G2).Perm (b :: G2 ++ t :: a :: G) := List.perm_append_comm
      simpa using h2
    | s2 :: st, ⟨b, bs, us2, G2, t2, F2, f1, f2, f3, f4, f5, f6⟩ =>
      subst f6
      refine ⟨a, as', b :: t2 :: ((G2 ++ t :: a :: G) ++ F2), e1, by rw [f1]; simp, ?_, b, bs, us2 ++ [.ref t], G2 ++ t :: a :: G, t2, F2, f1, by rw [List.append_nil]; exact f2, f3.app (PartsH.one p), f4, f5, rfl⟩
      have h1 : (a :: t :: (G ++ b :: t2 :: (G2 ++ F2))).Perm (t :: a :: (G ++ b :: t2 :: (G2 ++ F2))) := List.Perm.swap ..
      refine h1.trans ?_
      have h2 : (t :: a :: G ++ b :: t2 :: (G2 ++ F2)).Perm (b :: t2 :: (G2 ++ F2) ++ t :: a :: G) := List.perm_append_comm
      refine (show (t :: a :: (G ++ b :: t2 :: (G2 ++ F2))).Perm _ from h2).trans ?_
      refine List.Perm.cons _ (List.Perm.cons _ ?_)
      show ((G2 ++ F2) ++ (t :: a :: G)).Perm ((G2 ++ (t :: a :: G)) ++ F2)
      rw [List.append_assoc, List.append_assoc]
      exact List.Perm.append_left _ List.perm_append_comm
theorem rowS_close (n : Str) (r : List Rw) (m : Str) (q : List Rw) (st : Stk) : rowS ((n, r) :: (m, q) :: st) = rowS ((m, q ++ [.tp n r]) :: st) := by rw [rowS]
/-- all closed -/
theorem StkH.row {H : Hp} : ∀ (k : Nat) {st : Stk} {as : List Addr} {F : List Addr}, st.length = k + 1 → StkH H st as [] F → ∃ a us G, as.getLast? = some a ∧ H a = some (.lst us) ∧ PartsH H (rowS st) us G ∧ F.Perm (a :: G)
  | 0, [(n, r)], as, F, _, ⟨a, us, G, e1, e2, e3, e4⟩ => by
    rw [List.append_nil] at e2
    exact ⟨a, us, G, by rw [e1]; rfl, e2, by rw [rowS]; exact e3, by rw [e4]⟩
  | k + 1, (n, r) :: (m, q) :: st, as, F, hl, h => by
    obtain ⟨a, as', F2, e1, ne, pm, h2⟩ := h.close (by simp)
    obtain ⟨b, us, G, g1, g2, g3, g4⟩ := StkH.row k (by simp [closeS] at hl ⊢; omega) h2
    refine ⟨b, us, G, ?_, g2, ?_, pm.trans g4⟩
    · rw [e1]
      cases as' with
      | nil => exact absurd rfl ne
      | cons x xs => rw [List.getLast?_cons_cons]; exact g1
    · rw [rowS_close]; exact g3
end Dv
namespace Dv
open PySem PySem.Spec L2
/-! ### the pieces of the text -/
def kKind : S := .setk 10 (.bin .mod (.var 9) (.idx (.lst (.cons (.cst (.int 3)) (.cons (.cst (.int 8)) (.cons (.cst (.int 3)) (.nil))))) (.var 7)))
def kText : S := .setk 11 (.call 7 (.cons (.bin .fdiv (.var 9) (.cst (.int 3))) (.cons (.bin .mod (.bin .fdiv (.var 9) (.cst (.int 11))) (.idx (.lst (.cons (.cst (.int 20)) (.cons (.cst (.int 61)) (.nil)))) (.bi .int1 (.cons (.cmp .eq (.bin .mod (.bin .fdiv (.var 9) (.cst (.int 7))) (.cst (.int 5))) (.cst (.int 0))) (.nil))))) (.nil))))
def kMany : S := .setk 6 (.bin .add (.var 6) (.cst (.int 1)))
def kName : S := .setk 12 (.call 8 (.cons (.bin .fdiv (.var 9) (.cst (.int 3))) (.nil)))
def kHead : S := .ex (.mut .append 4 (.cons (.var 12) .nil))
def kHash : S := .ex (.mut .append 4 (.cons (.cst (.str "#")) .nil))
def kTold : S := .ex (.mut .append 5 (.cons (.var 11) .nil))
def kLean : S := .setk 7 (.bin .mod (.call 5 (.cons (.call 3 (.cons (.var 0) (.cons (.cst (.int 0)) (.nil)))) (.cons (.cst (.int 3)) (.nil)))) (.cst (.int 3)))
def kDraws : S := .setk 8 (.call 9 (.cons (.var 0) (.cons (.bin .add (.cst (.int 4)) (.var 1)) (.cons (.cst (.int 60)) (.nil)))))
def kPre : S := .seq (.set 4 (.lst (.nil))) (.seq (.set 5 (.lst (.nil))) (.seq (.setk 6 (.cst (.int 0))) (.seq kLean kDraws)))
def kIt : E := .itL (.sl (.var 8) (.nopart) (.bin .mod (.idx (.var 8) (.cst (.int 59))) (.cst (.int 60))))
def kRet : S := .ret (.tup (.cons (.var 2) (.cons (.var 6) (.cons (.var 5) (.cons (.var 4) (.nil))))))
def kOne : E := .cmp .eq (.bi .len (.cons (.var 3) (.nil))) (.cst (.int 1))
def kK1 : E := .cmp .eq (.var 10) (.cst (.int 1))
def kMore : E := .cmp .gt (.bi .len (.cons (.var 3) (.nil))) (.cst (.int 1))
def kTup : E := .or_ (.cmp .eq (.var 10) (.cst (.int 0))) (.and_ (.cmp .eq (.var 7) (.cst (.int 1))) (.cmp .gt (.var 10) (.cst (.int 2))))
def kLast : E := .idx (.var 3) (.neg (.cst (.int 1)))
def kPush : S := .seq (.ex (.mutE .append kLast (.cons (.tup (.cons (.var 12) (.cons (.lst (.nil)) (.nil)))) .nil))) (.ex (.mut .append 3 (.cons (.idx (.idx kLast (.neg (.cst (.int 1)))) (.cst (.int 1))) .nil)))
def kAdd : S := .ex (.mutE .append kLast (.cons (.var 11) .nil))
def kLoop : S := .seq kKind (.seq kText (.seq (.ite (.and_ kK1 kMore) (.seq (.ex (.mut .pop 3 .nil)) (.cnt)) (.skip)) (.seq kMany (.ite kTup (.seq kName (.seq (.ite kOne kHead (.skip)) kPush)) (.seq (.ite kOne kHash (.skip)) (.seq kAdd kTold))))))
def kBuilt : S := .seq (.setk 2 (.lst (.nil))) (.seq (.set 3 (.lst (.cons (.var 2) (.nil)))) (.seq (.set 4 (.lst (.nil))) (.seq (.set 5 (.lst (.nil))) (.seq (.setk 6 (.cst (.int 0))) (.seq kLean (.seq kDraws (.seq (.for_ kIt [9] kLoop) kRet)))))))
/-! ### what it reckons -/
def chkB (Γ : Env) : Option Env := if (Γ.at 2).isNone && (Γ.at 3).isNone then some Γ else none
def runB (g : Cfg) (s : S) (Γ : Env) : Option Env := (evS { g with lk := [2, 3] } s Γ).bind fun o => match o with
  | .nx Γ' => chkB Γ'
  | _ => none
def tstB (g : Cfg) (e : E) (Γ : Env) : Option (Bool × Env) := ((ev { g with lk := [2, 3] } e).t Γ).bind fun p => (chkB p.2).map fun Γ' => (p.1, Γ')
def smallB (st : Stk) : Bool := decide (st.length ≤ 1000) && decide ((st.head?.map (·.2.length)).getD 0 ≤ 1000)
def strAt (Γ : Env) (i : Nat) : Option Str := match Γ.at i with
  | some (.str s, false) => some s
  | _ => none
def stepB (g : Cfg) (p : Env × Stk) (x : D) : Option (Env × Stk) :=
  (bindT [2, 3] [9] x p.1).bind fun Γ0 => (chkB Γ0).bind fun Γ0 => (runB g kKind Γ0).bind fun Γ1 => (runB g kText Γ1).bind fun Γ2 => (tstB g kK1 Γ2).bind fun c =>
    if smallB p.2 then
      if c.1 && decide (1 < p.2.length) then some (c.2, closeS p.2) else
        (runB g kMany c.2).bind fun Γ3 => (tstB g kTup Γ3).bind fun t =>
          if t.1 then (runB g kName t.2).bind fun Γ4 => (if p.2.length = 1 then runB g kHead Γ4 else some Γ4).bind fun Γ5 => (strAt Γ5 12).map fun nm => (Γ5, (nm, []) :: p.2)
          else (if p.2.length = 1 then runB g kHash t.2 else some t.2).bind fun Γ5 => (strAt Γ5 11).bind fun s => (runB g kTold Γ5).map fun Γ6 => (Γ6, addS (.tx s) p.2)
    else none
def loopB (g : Cfg) : List D → Env × Stk → Option (Env × Stk)
  | [], p => some p
  | x :: xs, p => (stepB g p x).bind (loopB g xs)
def builtX (g : Cfg) : Env → Option Out := fun Γ => if (Γ.at 2).isNone && (Γ.at 3).isNone && decide (Γ.length = 13) then
    (runB g kPre Γ).bind fun Γ1 => ((ev { g with lk := [2, 3] } kIt).i Γ1).bind fun q => (chkB q.2).bind fun Γ2 => (loopB g q.1 (Γ2, [("", [])])).bind fun z =>
      if z.1.length = 13 then evS { g with lk := [] } kRet (z.1.set 2 (some (.nw (.lst (dWs (rowS z.2))), false))) else none
  else none
section
variable {cl : Ct}
theorem isNone_eq {α : Type} {x : Option α} (h : x.isNone = true) : x = none := by cases x <;> simp at h ⊢
theorem chkB_ok {Γ Γ' : Env} (h : chkB Γ = some Γ') : Γ' = Γ ∧ Γ.at 2 = none ∧ Γ.at 3 = none := by
  unfold chkB at h
  split at h
  · rename_i c
    obtain ⟨a, b⟩ := Bool.and_eq_true_iff.mp c
    cases h
    exact ⟨rfl, isNone_eq a, isNone_eq b⟩
  · cases h
/-! ### small changes of what is not told -/
theorem not_own_of {Γ : Env} {σ : St} {M H : Hp} (o : OkS cl Γ σ M H) {x : Addr} (h : H x = none) : ¬ isOwn Γ σ x := fun ⟨i, d, h1, h2⟩ => by
  obtain ⟨v, e1, s⟩ := o.slot i d true h1
  obtain ⟨b, ob, rfl, m, hb, _⟩ := (show ∃ a o, v = V.ref a ∧ M a = none ∧ H a = some o ∧ Top cl M d o from s)
  rw [h2] at e1
  cases e1
  rw [h] at hb
  cases hb
theorem Stp.poke {lk : List Nat} {O : Addr → Prop} {Γ0 Γ : Env} {σ0 σ : St} {M0 H0 M H : Hp} {x : Addr} (S : Stp cl lk O Γ0 σ0 M0 H0 Γ σ M H) (h0 : H0 x = none) (m : M x = none) (no : ¬ isOwn Γ σ x) (o : HO) : Stp cl lk O Γ0 σ0 M0 H0 Γ σ M (upd H x o) := by
  have ok := S.ok
  refine ⟨⟨⟨ok.len, fun a u e => ?_, fun i d b e => ?_, ok.sep⟩, fun a h => ?_, ok.ownN⟩, ⟨fun a u e n => ?_, fun a h => ?_, S.fr.subM, S.fr.new⟩, S.own, S.lks, S.lkg⟩
  · rw [upd_ne fun z => by rw [z, m] at e; cases e]
    exact ok.sub a u e
  · obtain ⟨v, e1, s⟩ := ok.slot i d b e
    refine ⟨v, e1, ?_⟩
    cases b with
    | false => exact s
    | true =>
      obtain ⟨a, u, rfl, m2, hu, t⟩ := (show ∃ a o, v = V.ref a ∧ M a = none ∧ H a = some o ∧ Top cl M d o from s)
      exact ⟨a, u, rfl, m2, by rw [upd_ne fun z : a = x => no (by rw [← z]; exact ⟨i, d, e, e1⟩)]; exact hu, t⟩
  · by_cases z : a = x
    · rw [z, upd_same] at h; cases h
    · rw [upd_ne z] at h; exact ok.fresh a h
  · rw [upd_ne fun z => by rw [z, h0] at e; cases e]
    exact S.fr.keep a u e n
  · by_cases z : a = x
    · rw [z, upd_same]; exact fun q => nomatch q
    · rw [upd_ne z]; exact S.fr.live a h
theorem Stp.fresh {lk : List Nat} {O : Addr → Prop} {Γ0 Γ : Env} {σ0 σ : St} {M0 H0 M H : Hp} {x : Addr} (S : Stp cl lk O Γ0 σ0 M0 H0 Γ σ M H) (h : H x = none) : H0 x = none ∧ M x = none ∧ ¬ isOwn Γ σ x := by
  refine ⟨?_, ?_, not_own_of S.ok h⟩
  · cases z : H0 x with
    | none => rfl
    | some o => exact absurd h (S.fr.live x (by rw [z]; exact fun q => nomatch q))
  · exact S.ok.sub.free h
theorem Stp.slot {O : Addr → Prop} {Γ0 Γ : Env} {σ0 σ : St} {M0 H0 M H : Hp} {i : Nat} (S : Stp cl [] O Γ0 σ0 M0 H0 Γ σ M H) (h : Γ.at i = none) (v : Option V) : Stp cl [] O Γ0 σ0 M0 H0 Γ (σ.set i v) M H := by
  have ok := S.ok
  have same : ∀ j d b, Γ.at j = some (d, b) → (σ.set i v)[j]? = σ[j]? := fun j d b e => by
    rw [List.getElem?_set_ne fun z => by rw [← z, h] at e; cases e]
  have iso : ∀ a, isOwn Γ (σ.set i v) a → isOwn Γ σ a := fun a ⟨j, d, e1, e2⟩ => ⟨j, d, e1, by rw [← same j d true e1]; exact e2⟩
  refine ⟨⟨⟨by rw [List.length_set]; exact ok.len, ok.sub, fun j d b e => ?_, fun j k d e a h1 h2 h3 h4 => ?_⟩, ok.fresh, fun a z => ok.ownN a (iso a z)⟩, S.fr, fun a z => S.own a (iso a z), (fun j hj => by cases hj), (fun j d hj => by cases hj)⟩
  · obtain ⟨w, e1, s⟩ := ok.slot j d b e
    exact ⟨w, by rw [same j d b e]; exact e1, s⟩
  · exact ok.sep j k d e a h1 h2 (by rw [← same j d true h1]; exact h3) (by rw [← same k e true h2]; exact h4)
/-- what holds between the steps -/
structure BInv (cl : Ct) (Γ0 : Env) (σ0 : St) (M0 H0 : Hp) (Γ : Env) (st : Stk) (σ : St) (M H : Hp) : Prop where
  S : Stp cl [] (isOwn Γ0 σ0) Γ0 σ0 M0 H0 Γ σ M H
  n2 : Γ.at 2 = none
  n3 : Γ.at 3 = none
  ex : ∃ (as F : List Addr) (p a0 : Addr), as.getLast? = some a0 ∧ σ[2]? = some (some (.ref a0)) ∧ σ[3]? = some (some (.ref p)) ∧ H p = some (.lst (as.reverse.map V.ref)) ∧ StkH H st as [] F ∧ (p :: F).Nodup ∧ ∀ x ∈ p :: F, H0 x = none ∧ M x = none ∧ ¬ isOwn Γ σ x
mutual
theorem PartH.live {H : Hp} : ∀ {p : Rw} {v : V} {F : List Addr}, PartH H p v F → ∀ x ∈ F, H x ≠ none
  | .tx s, v, F, ⟨_, e⟩, x, hx => by rw [e] at hx; cases hx
  | .tp n r, v, F, ⟨t, b, us, G, e1, e2, e3, e4, e5⟩, x, hx => by
    rw [e5] at hx
    rcases List.mem_cons.mp hx with e | hx
    · rw [e, e2]; exact fun z => nomatch z
    · rcases List.mem_cons.mp hx with e | hx
      · rw [e, e3]; exact fun z => nomatch z
      · exact PartsH.live e4 x hx
theorem PartsH.live {H : Hp} : ∀ {r : List Rw} {us : List V} {F : List Addr}, PartsH H r us F → ∀ x ∈ F, H x ≠ none
  | [], us, F, ⟨_, e⟩, x, hx => by rw [e] at hx; cases hx
  | p :: r, us, F, ⟨v, us', F1, F2, e1, e2, e3, e4⟩, x, hx => by
    rw [e4] at hx
    rcases List.mem_append.mp hx with hx | hx
    · exact e2.live x hx
    · exact e3.live x hx
end
theorem StkH.live {H : Hp} : ∀ {st : Stk} {as : List Addr} {ex : List V} {F : List Addr}, StkH H st as ex F → ∀ x ∈ F, H x ≠ none
  | [], as, ex, F, h, x, hx => h.elim
  | [(n, r)], as, ex, F, ⟨a, us, G, e1, e2, e3, e4⟩, x, hx => by
    rw [e4] at hx
    rcases List.mem_cons.mp hx with e | hx
    · rw [e, e2]; exact fun z => nomatch z
    · exact e3.live x hx
  | (n, r) :: s2 :: st, as, ex, F, ⟨a, as', us, G, t, F', e1, e2, e3, e4, e5, e6⟩, x, hx => by
    rw [e6] at hx
    rcases List.mem_cons.mp hx with e | hx
    · rw [e, e2]; exact fun z => nomatch z
    · rcases List.mem_cons.mp hx with e | hx
      · rw [e, e4]; exact fun z => nomatch z
      · rcases List.mem_append.mp hx with hx | hx
        · exact e3.live x hx
        · exact StkH.live e5 x hx
section
variable {Γ0 : Env} {σ0 : St} {M0 H0 : Hp}
theorem BInv.pure {Γ Γ' : Env} {st : Stk} {σ σ' : St} {M H M' H' : Hp} (I : BInv cl Γ0 σ0 M0 H0 Γ st σ M H) (S : Stp cl [2, 3] (isOwn Γ σ) Γ σ M H Γ' σ' M' H') (h2 : Γ'.at 2 = none) (h3 : Γ'.at 3 = none) : BInv cl Γ0 σ0 M0 H0 Γ' st σ' M' H' := by
  obtain ⟨as, F, p, a0, e1, e2, e3, e4, e5, e6, e7⟩ := I.ex
  have keep : ∀ x ∈ p :: F, H x ≠ none → H' x = H x := fun x hx hn => by
    cases z : H x with
    | none => exact absurd z hn
    | some o => exact S.fr.keep x o z (e7 x hx).2.2
  have live : ∀ x ∈ p :: F, H x ≠ none := fun x hx => by
    rcases List.mem_cons.mp hx with rfl | hx
    · rw [e4]; exact fun z => nomatch z
    · exact e5.live x hx
  refine ⟨I.S.trans (S.less fun _ h => by cases h) fun a h => I.S.own a h, h2, h3, as, F, p, a0, e1, ?_, ?_, ?_, ?_, e6, fun x hx => ⟨(e7 x hx).1, ?_, fun z => ?_⟩⟩
  · rw [S.lks 2 (by simp)]; exact e2
  · rw [S.lks 3 (by simp)]; exact e3
  · rw [keep p (by simp) (live p (by simp))]; exact e4
  · exact e5.frame fun x hx => keep x (by simp [hx]) (live x (by simp [hx]))
  · cases z : M' x with
    | none => rfl
    | some o =>
      rcases S.fr.new x (e7 x hx).2.1 (by rw [z]; exact fun q => nomatch q) with q | q
      · exact absurd q (live x hx)
      · exact absurd q (e7 x hx).2.2
  · rcases S.own x z with q | q
    · exact (e7 x hx).2.2 q
    · exact live x hx q
variable {g : Cfg} {Φ : Pm} (hΦ : Sees cl.toCt0 g Φ)
include hΦ
theorem sees_lk (lk : List Nat) : Sees cl.toCt0 { g with lk := lk } Φ := ⟨hΦ.cc, hΦ.call, hΦ.spo⟩
theorem run_ok {s : S} {Γ Γ' : Env} {st : Stk} {σ : St} {M H : Hp} (h : runB g s Γ = some Γ') (I : BInv cl Γ0 σ0 M0 H0 Γ st σ M H) (D : Ends) (q : ∀ σ' M' H', BInv cl Γ0 σ0 M0 H0 Γ' st σ' M' H' → Same M M' → D.nx σ' H') : trS cl.K Φ s D σ H := by
  unfold runB at h
  obtain ⟨o, e, h⟩ := bind_some' h
  refine sndS_all s { g with lk := [2, 3] } cl (sees_lk hΦ _) Γ o e σ M H I.S.ok D ?_
  cases o with
  | nx Γ1 =>
    obtain ⟨rfl, h2, h3⟩ := chkB_ok h
    exact fun σ' M' H' S => q σ' M' H' (I.pure S h2 h3) S.fr.subM
  | bk _ => cases h
  | ct _ => cases h
  | rt _ _ _ => cases h
theorem tst_ok {e : E} {Γ : Env} {b : Bool} {Γ' : Env} {st : Stk} {σ : St} {M H : Hp} (h : tstB g e Γ = some (b, Γ')) (I : BInv cl Γ0 σ0 M0 H0 Γ st σ M H) (Q : Bool → Hp → Prop) (q : ∀ M' H', BInv cl Γ0 σ0 M0 H0 Γ' st σ M' H' → Same M M' → Q b H') : trT cl.K Φ e σ H Q := by
  unfold tstB at h
  obtain ⟨⟨b1, Γ1⟩, e1, h⟩ := bind_some' h
  obtain ⟨Γ2, e2, h⟩ := map_some' h
  obtain ⟨rfl, h2, h3⟩ := chkB_ok e2
  cases h
  refine (snd_all { g with lk := [2, 3] } (sees_lk hΦ _) e).t Γ _ _ e1 σ M H I.S.ok Q fun M' H' S _ => q M' H' (I.pure S h2 h3) S.fr.subM
end
end
end Dv
namespace Dv
open PySem PySem.Spec L2
theorem atI_last {α : Type} (l : List α) (x : α) : atI (l ++ [x]) (-1) = some x := by
  unfold atI ixN
  have h : ¬ (0 : Int) ≤ -1 := by decide
  rw [if_neg h]
  simp
  have e : (-1 + ((l.length : Int) + 1)).toNat = l.length := by omega
  rw [if_pos (by omega), e]
  simp
theorem atI_last_rev (a : Addr) (as : List Addr) : atI ((a :: as).reverse.map V.ref) (-1) = some (V.ref a) := by
  rw [List.reverse_cons, List.map_append]
  exact atI_last _ _
theorem strAt_ok {cl : Ct} {Γ : Env} {i : Nat} {s : Str} {σ : St} {M H : Hp} (h : strAt Γ i = some s) (ok : OkS cl Γ σ M H) : σ[i]? = some (some (.str s)) := by
  unfold strAt at h
  split at h
  · rename_i s' e
    cases h
    obtain ⟨v, e1, r⟩ := ok.slot i _ _ e
    rw [e1, show v = .str _ from r]
  · cases h
section
variable {cl : Ct} {Γ0 : Env} {σ0 : St} {M0 H0 : Hp}
/-- how long the pile is -/
theorem BInv.len {Γ : Env} {st : Stk} {σ : St} {M H : Hp} (I : BInv cl Γ0 σ0 M0 H0 Γ st σ M H) : ∃ p vs, σ[3]? = some (some (.ref p)) ∧ H p = some (.lst vs) ∧ vs.length = st.length := by
  obtain ⟨as, F, p, a0, e1, e2, e3, e4, e5, e6, e7⟩ := I.ex
  exact ⟨p, _, e3, e4, by rw [List.length_map, List.length_reverse, e5.len]⟩
theorem more_ok (Φ : Pm) {Γ : Env} {st : Stk} {σ : St} {M H : Hp} (I : BInv cl Γ0 σ0 M0 H0 Γ st σ M H) (Q : Bool → Hp → Prop) (q : Q (decide (1 < st.length)) H) : trT cl.K Φ kMore σ H Q := by
  obtain ⟨p, vs, e1, e2, e3⟩ := I.len
  refine ⟨.ref p, e1, .inl ⟨.ref p, vs.length, rfl, .inl ⟨_, SqL.of e2, rfl⟩, _, _, rfl, rfl, _, rfl, ?_⟩⟩
  have : decide ((1 : Int) < (vs.length : Int)) = decide (1 < st.length) := by rw [e3]; exact decide_eq_decide.mpr (by omega)
  rw [this]
  exact q
theorem one_ok (Φ : Pm) {Γ : Env} {st : Stk} {σ : St} {M H : Hp} (I : BInv cl Γ0 σ0 M0 H0 Γ st σ M H) (Q : Bool → Hp → Prop) (q : Q (decide (st.length = 1)) H) : trT cl.K Φ kOne σ H Q := by
  obtain ⟨p, vs, e1, e2, e3⟩ := I.len
  refine ⟨.ref p, e1, .inl ⟨.ref p, vs.length, rfl, .inl ⟨_, SqL.of e2, rfl⟩, .inl ⟨rfl, _, rfl, ?_⟩⟩⟩
  have : decide (V.int (vs.length : Int) = V.int 1) = decide (st.length = 1) := by
    rw [e3]
    refine decide_eq_decide.mpr ⟨fun h => ?_, fun h => by rw [h]; rfl⟩
    have := V.int.inj h
    omega
  rw [this]
  exact q
/-- the last list closed -/
theorem pop_okB (Φ : Pm) {Γ : Env} {st : Stk} {σ : St} {M H : Hp} (I : BInv cl Γ0 σ0 M0 H0 Γ st σ M H) (hl : 1 < st.length) (D : Ends) (q : ∀ H', BInv cl Γ0 σ0 M0 H0 Γ (closeS st) σ M H' → D.nx σ H') : trS cl.K Φ (.ex (.mut .pop 3 .nil)) D σ H := by
  obtain ⟨as, F, p, a0, e1, e2, e3, e4, e5, e6, e7⟩ := I.ex
  obtain ⟨a, as', F2, f1, f2, f3, f4⟩ := e5.close hl
  subst f1
  have er : (a :: as').reverse.map V.ref = as'.reverse.map V.ref ++ [V.ref a] := by rw [List.reverse_cons, List.map_append]; rfl
  refine ⟨.ref p, e3, .inl ⟨rfl, _, SqL.of e4⟩, p, _, .ref a, rfl, rfl, e4, by rw [er]; simp, ?_⟩
  have hp := e7 p (by simp)
  have nF : p ∉ F := (List.nodup_cons.mp e6).1
  have nF2 : p ∉ F2 := fun z => nF (f3.mem_iff.mpr z)
  refine q _ ⟨I.S.poke hp.1 hp.2.1 hp.2.2 _, I.n2, I.n3, as', F2, p, a0, ?_, e2, e3, by rw [upd_same, er, List.dropLast_concat], f4.frame fun x hx => upd_ne fun z => nF2 (z ▸ hx), List.nodup_cons.mpr ⟨nF2, f3.nodup_iff.mp (List.nodup_cons.mp e6).2⟩, fun x hx => e7 x ?_⟩
  · cases as' with
    | nil => exact absurd rfl f2
    | cons y ys => rw [List.getLast?_cons_cons] at e1; exact e1
  · rcases List.mem_cons.mp hx with h | h
    · rw [h]; simp
    · exact List.mem_cons_of_mem _ (f3.mem_iff.mpr h)
theorem smallB_ok {n : Str} {r : List Rw} {st : Stk} (h : smallB ((n, r) :: st) = true) : r.length ≤ 1000 ∧ ((n, r) :: st).length ≤ 1000 := by
  unfold smallB at h
  obtain ⟨a, b⟩ := Bool.and_eq_true_iff.mp h
  exact ⟨by simpa using of_decide_eq_true b, of_decide_eq_true a⟩
/-- a text more -/
theorem add_okB (Φ : Pm) {Γ : Env} {st : Stk} {σ : St} {M H : Hp} {s : Str} (I : BInv cl Γ0 σ0 M0 H0 Γ st σ M H) (hs : smallB st = true) (h : strAt Γ 11 = some s) (D : Ends) (q : ∀ H', BInv cl Γ0 σ0 M0 H0 Γ (addS (.tx s) st) σ M H' → D.nx σ H') : trS cl.K Φ kAdd D σ H := by
  have sz : 10000 < sizeLine := by decide
  obtain ⟨as, F, p, a0, e1, e2, e3, e4, e5, e6, e7⟩ := I.ex
  have nd := (List.nodup_cons.mp e6).2
  have nF : p ∉ F := (List.nodup_cons.mp e6).1
  obtain ⟨a, as', us, n, r, st', f1, f2, f3, f4, f5, f6⟩ := e5.top nd
  subst f1 f2
  have sb := smallB_ok hs
  have h11 := strAt_ok h I.S.ok
  have ha := e7 a (List.mem_cons_of_mem _ f3)
  refine ⟨.ref p, e3, 1, rfl, .inl (.inl ⟨p, _, _, .ref a, rfl, rfl, SqL.of e4, atI_last_rev a as', .inl ⟨rfl, _, SqL.of f4⟩, .str s, h11, a, us, .str s, rfl, rfl, f4, by omega, ?_⟩)⟩
  have pa : p ≠ a := fun z => nF (z ▸ f3)
  refine q _ ⟨I.S.poke ha.1 ha.2.1 ha.2.2 _, I.n2, I.n3, a :: as', F, p, a0, e1, e2, e3, by rw [upd_ne pa]; exact e4, ?_, e6, e7⟩
  exact f6 _ [] [.tx s] [.str s] ⟨.str s, [], [], [], rfl, ⟨rfl, rfl⟩, ⟨rfl, rfl⟩, rfl⟩ (by rw [upd_same, List.append_nil]) fun x _ nx => upd_ne nx
/-- a tuple more, its list the last one -/
theorem push_okB (Φ : Pm) {Γ : Env} {st : Stk} {σ : St} {M H : Hp} {s : Str} (I : BInv cl Γ0 σ0 M0 H0 Γ st σ M H) (hs : smallB st = true) (h : strAt Γ 12 = some s) (D : Ends) (q : ∀ H', BInv cl Γ0 σ0 M0 H0 Γ ((s, []) :: st) σ M H' → D.nx σ H') : trS cl.K Φ kPush D σ H := by
  have sz : 10000 < sizeLine := by decide
  obtain ⟨as, F, p, a0, e1, e2, e3, e4, e5, e6, e7⟩ := I.ex
  have nd := (List.nodup_cons.mp e6).2
  have nF : p ∉ F := (List.nodup_cons.mp e6).1
  have al := e5.len
  obtain ⟨a, as', us, n, r, st', f1, f2, f3, f4, f5, f6⟩ := e5.top nd
  subst f1 f2
  have sb := smallB_ok hs
  have h12 := strAt_ok h I.S.ok
  have pa : p ≠ a := fun z => nF (z ▸ f3)
  have live : ∀ x ∈ p :: F, H x ≠ none := fun x hx => by
    rcases List.mem_cons.mp hx with rfl | hx
    · rw [e4]; exact fun z => nomatch z
    · exact e5.live x hx
  refine ⟨.ref p, e3, 1, rfl, .inl (.inl ⟨p, _, _, .ref a, rfl, rfl, SqL.of e4, atI_last_rev a as', .inl ⟨rfl, _, SqL.of f4⟩, .str s, h12, by show 0 ≤ sizeLine; omega, fun b hb => ⟨by show 2 ≤ sizeLine; omega, fun t ht => ?_⟩⟩)⟩
  have nbF : ∀ x ∈ p :: F, x ≠ b := fun x hx z => live x hx (z ▸ hb)
  have tb : t ≠ b := fun z => by rw [z, upd_same] at ht; cases ht
  have htH : H t = none := by rw [upd_ne tb] at ht; exact ht
  have ntF : ∀ x ∈ p :: F, x ≠ t := fun x hx z => live x hx (z ▸ htH)
  let H1 : Hp := upd H b (.lst [])
  let H2 : Hp := upd H1 t (.tup [.str s, .ref b])
  have a2 : H2 a = some (.lst us) := by
    show upd (upd H b _) t _ a = _
    rw [upd_ne (ntF a (List.mem_cons_of_mem _ f3)), upd_ne (nbF a (List.mem_cons_of_mem _ f3))]
    exact f4
  refine ⟨a, us, .ref t, rfl, rfl, a2, by omega, ?_⟩
  let H3 : Hp := upd H2 a (.lst (us ++ [.ref t]))
  have p3 : H3 p = some (.lst ((a :: as').reverse.map V.ref)) := by
    show upd (upd (upd H b _) t _) a _ p = _
    rw [upd_ne pa, upd_ne (ntF p (by simp)), upd_ne (nbF p (by simp))]
    exact e4
  have a3 : H3 a = some (.lst (us ++ [.ref t])) := upd_same
  have ta : t ≠ a := fun z => ntF a (List.mem_cons_of_mem _ f3) z.symm
  have ba : b ≠ a := fun z => nbF a (List.mem_cons_of_mem _ f3) z.symm
  have tp : t ≠ p := fun z => ntF p (by simp) z.symm
  have bp : b ≠ p := fun z => nbF p (by simp) z.symm
  have t3 : H3 t = some (.tup [.str s, .ref b]) := by
    show upd (upd (upd H b _) t _) a _ t = _
    rw [upd_ne ta, upd_same]
  have b3 : H3 b = some (.lst []) := by
    show upd (upd (upd H b _) t _) a _ b = _
    rw [upd_ne ba, upd_ne (Ne.symm tb), upd_same]
  refine ⟨.ref p, e3, .inl ⟨rfl, _, SqL.of p3⟩, .ref p, e3, 1, rfl, .inl (.inl ⟨p, _, _, .ref a, rfl, rfl, SqL.of p3, atI_last_rev a as', 1, rfl, .inl (.inl ⟨a, _, _, .ref t, rfl, rfl, SqL.of a3, atI_last us (.ref t), .inl (.inr (.inl ⟨t, _, _, .ref b, rfl, rfl, SqT.of t3, rfl, p, _, .ref b, rfl, rfl, p3, ?_, ?_⟩))⟩)⟩)⟩
  · rw [List.length_map, List.length_reverse]
    have := sb.2
    simp only [List.length_cons] at this al ⊢
    omega
  -- what holds behind it
  have fb := I.S.fresh hb
  have ft := I.S.fresh htH
  have ha := e7 a (List.mem_cons_of_mem _ f3)
  have hp := e7 p (by simp)
  have S1 := I.S.poke fb.1 fb.2.1 fb.2.2 (.lst [])
  have S2 := S1.poke ft.1 ft.2.1 ft.2.2 (.tup [.str s, .ref b])
  have S3 := S2.poke ha.1 ha.2.1 ha.2.2 (.lst (us ++ [.ref t]))
  have S4 := S3.poke hp.1 hp.2.1 hp.2.2 (.lst ((a :: as').reverse.map V.ref ++ [.ref b]))
  have k4 : ∀ x, x ≠ p → upd H3 p (.lst ((a :: as').reverse.map V.ref ++ [.ref b])) x = H3 x := fun x hx => upd_ne hx
  refine q _ ⟨S4, I.n2, I.n3, b :: a :: as', b :: t :: F, p, a0, by rw [List.getLast?_cons_cons]; exact e1, e2, e3, ?_, ?_, ?_, fun x hx => ?_⟩
  · show upd _ p _ p = _
    rw [upd_same, List.reverse_cons (a := b), List.map_append]
    rfl
  · refine ⟨b, a :: as', [], [], t, F, rfl, by rw [k4 b bp]; exact b3, ⟨rfl, rfl⟩, by rw [k4 t tp]; exact t3, ?_, rfl⟩
    have := f6 (upd H3 p (.lst ((a :: as').reverse.map V.ref ++ [.ref b]))) [.ref t] [] [] ⟨rfl, rfl⟩ (by rw [k4 a (Ne.symm pa), a3, List.append_nil]) fun x hx nx => by
      have xp : x ≠ p := fun z => nF (z ▸ hx)
      rw [k4 x xp]
      show upd (upd (upd H b _) t _) a _ x = _
      rw [upd_ne nx, upd_ne (ntF x (List.mem_cons_of_mem _ hx)), upd_ne (nbF x (List.mem_cons_of_mem _ hx))]
    rw [List.append_nil] at this
    exact this
  · rw [List.nodup_cons, List.nodup_cons, List.nodup_cons]
    refine ⟨fun z => ?_, fun z => ?_, fun z => ntF t (List.mem_cons_of_mem _ z) rfl, nd⟩
    · rcases List.mem_cons.mp z with z | z
      · exact bp z.symm
      · rcases List.mem_cons.mp z with z | z
        · exact tp z.symm
        · exact nF z
    · rcases List.mem_cons.mp z with z | z
      · exact tb z.symm
      · exact nbF b (List.mem_cons_of_mem _ z) rfl
  · rcases List.mem_cons.mp hx with h | hx
    · rw [h]; exact hp
    · rcases List.mem_cons.mp hx with h | hx
      · rw [h]; exact fb
      · rcases List.mem_cons.mp hx with h | hx
        · rw [h]; exact ft
        · exact e7 x (List.mem_cons_of_mem _ hx)
end
end Dv
namespace Dv
open PySem PySem.Spec L2
section
variable {cl : Ct} {Γ0 : Env} {σ0 : St} {M0 H0 : Hp} {g : Cfg} {Φ : Pm} (hΦ : Sees cl.toCt0 g Φ)
include hΦ
theorem step_okB {x : D} {v : V} {Γ : Env} {st : Stk} {z : Env × Stk} {σ : St} {M H : Hp} (h : stepB g (Γ, st) x = some z) (I : BInv cl Γ0 σ0 M0 H0 Γ st σ M H) (rv : Rep cl M x v) (D : Ends) (N : St → Hp → Prop) (q : ∀ σ' M' H', BInv cl Γ0 σ0 M0 H0 z.1 z.2 σ' M' H' → Same M M' → N σ' H') :
    trG cl.K [9] v σ H fun σ2 H2 => trS cl.K Φ kLoop { D with nx := N, ct := N, bk := D.nx } σ2 H2 := by
  unfold stepB at h
  obtain ⟨Γa, h1, ha⟩ := bind_some' h
  obtain ⟨Γb, h2, hb⟩ := bind_some' ha
  obtain ⟨e2, n2, n3⟩ := chkB_ok h2
  clear h ha
  subst e2
  have h := hb
  clear hb
  obtain ⟨Γ1, h3, h⟩ := bind_some' h
  obtain ⟨Γ2, h4, h⟩ := bind_some' h
  obtain ⟨⟨c, Γ3⟩, h5, h⟩ := bind_some' h
  dsimp only at h
  refine bind_ok (lk := [2, 3]) I.S.ok h1 rv _ fun σ1 S1 _ _ _ => ?_
  have I1 := I.pure S1 n2 n3
  refine run_ok hΦ h3 I1 _ fun σ2 M2 H2 I2 s2 => ?_
  refine run_ok hΦ h4 I2 _ fun σ3 M3 H3 I3 s3 => ?_
  have s13 : Same M M3 := s2.trans s3
  refine tst_ok hΦ h5 I3 _ fun M4 H4 I4 s4 => ?_
  have s14 := s13.trans s4
  obtain ⟨sm, h⟩ := ite_some h
  -- behind the test: the list more
  have rest : (c && decide (1 < st.length)) = false → trS cl.K Φ (.seq kMany (.ite kTup (.seq kName (.seq (.ite kOne kHead (.skip)) kPush)) (.seq (.ite kOne kHash (.skip)) (.seq kAdd kTold)))) { D with nx := N, ct := N, bk := D.nx } σ3 H4 := by
    intro hc
    rw [hc] at h
    simp only [Bool.false_eq_true, if_false] at h
    obtain ⟨Γ4, h6, h⟩ := bind_some' h
    obtain ⟨⟨t, Γ5⟩, h7, h⟩ := bind_some' h
    dsimp only at h
    refine run_ok hΦ h6 I4 _ fun σ5 M5 H5 I5 s5 => ?_
    refine tst_ok hΦ h7 I5 _ fun M6 H6 I6 s6 => ?_
    have s16 := (s14.trans s5).trans s6
    cases t with
    | true =>
      simp only [if_true] at h
      obtain ⟨Γ6, h8, h⟩ := bind_some' h
      obtain ⟨Γ7, h9, h⟩ := bind_some' h
      obtain ⟨nm, h10, h⟩ := map_some' h
      subst h
      show trS cl.K Φ kName _ σ5 H6
      refine run_ok hΦ h8 I6 _ fun σ7 M7 H7 I7 s7 => ?_
      have fin : ∀ σ8 M8 H8, BInv cl Γ0 σ0 M0 H0 Γ7 st σ8 M8 H8 → Same M7 M8 → trS cl.K Φ kPush { D with nx := N, ct := N, bk := D.nx } σ8 H8 := fun σ8 M8 H8 I8 s8 =>
        push_okB Φ I8 sm h10 _ fun H9 I9 => q σ8 M8 H9 I9 ((s16.trans s7).trans s8)
      refine one_ok Φ I7 _ ?_
      by_cases l1 : st.length = 1
      · rw [if_pos l1] at h9
        rw [decide_eq_true l1]
        exact run_ok hΦ h9 I7 _ fun σ8 M8 H8 I8 s8 => fin σ8 M8 H8 I8 s8
      · rw [if_neg l1] at h9
        cases h9
        rw [decide_eq_false l1]
        exact fin σ7 M7 H7 I7 (Same.refl _)
    | false =>
      simp only [Bool.false_eq_true, if_false] at h
      obtain ⟨Γ7, h9, h⟩ := bind_some' h
      obtain ⟨s, h10, h⟩ := bind_some' h
      obtain ⟨Γ8, h11, h⟩ := map_some' h
      subst h
      have fin : ∀ σ8 M8 H8, BInv cl Γ0 σ0 M0 H0 Γ7 st σ8 M8 H8 → Same M6 M8 → trS cl.K Φ (.seq kAdd kTold) { D with nx := N, ct := N, bk := D.nx } σ8 H8 := fun σ8 M8 H8 I8 s8 =>
        add_okB Φ I8 sm h10 _ fun H9 I9 => run_ok hΦ h11 I9 _ fun σ10 M10 H10 I10 s10 => q σ10 M10 H10 I10 ((s16.trans s8).trans s10)
      show trS cl.K Φ (.ite kOne kHash (.skip)) _ σ5 H6
      refine one_ok Φ I6 _ ?_
      by_cases l1 : st.length = 1
      · rw [if_pos l1] at h9
        rw [decide_eq_true l1]
        exact run_ok hΦ h9 I6 _ fun σ8 M8 H8 I8 s8 => fin σ8 M8 H8 I8 s8
      · rw [if_neg l1] at h9
        cases h9
        rw [decide_eq_false l1]
        exact fin σ5 M6 H6 I6 (Same.refl _)
  cases c with
  | false => exact rest rfl
  | true =>
    show trT cl.K Φ kMore σ3 H4 _
    refine more_ok Φ I4 _ ?_
    by_cases l1 : 1 < st.length
    · rw [decide_eq_true l1] at h ⊢
      simp only [Bool.and_self, if_true] at h
      cases h
      exact pop_okB Φ I4 l1 _ fun H5 I5 => q σ3 M4 H5 I5 s14
    · rw [decide_eq_false l1]
      exact rest (by rw [decide_eq_false l1]; rfl)
theorem loop_okB {ds : List D} {Γ : Env} {st : Stk} {z : Env × Stk} {σ : St} {M H : Hp} {J : It} (h : loopB g ds (Γ, st) = some z) (I : BInv cl Γ0 σ0 M0 H0 Γ st σ M H) (wk : Walks cl M J ds) (D : Ends) (q : ∀ σ' M' H', BInv cl Γ0 σ0 M0 H0 z.1 z.2 σ' M' H' → D.nx σ' H') :
    ∃ W : Nat → Nat → St → Hp → Prop, (∃ m, W 0 m σ H) ∧ ∀ i m σ H, W i m σ H →
      (J.stop i H ∧ D.nx σ H) ∨ (J.go i H ∧ ∃ N : St → Hp → Prop, (∀ σ' H', N σ' H' → ∃ m', m' < m ∧ W (i + 1) m' σ' H') ∧ ∀ x H', J.yld i H x H' → trG cl.K [9] x σ H' fun σ2 H2 => trS cl.K Φ kLoop { D with nx := N, ct := N, bk := D.nx } σ2 H2) := by
  let Inv : Nat → St → Hp → Prop := fun i σi Hi => i ≤ ds.length ∧ ∃ p Mi, loopB g (ds.drop i) p = some z ∧ BInv cl Γ0 σ0 M0 H0 p.1 p.2 σi Mi Hi ∧ Same M Mi
  refine ⟨fun i m σi Hi => m = ds.length - i ∧ Inv i σi Hi, ⟨ds.length, rfl, Nat.zero_le _, (Γ, st), M, h, I, Same.refl _⟩, ?_⟩
  rintro i m σi Hi ⟨rfl, hil, p, Mi, k1, Ii, si⟩
  by_cases hlt : i < ds.length
  · obtain ⟨d, hd⟩ : ∃ d, ds[i]? = some d := ⟨ds[i], List.getElem?_eq_getElem hlt⟩
    have hdrop : ds.drop i = d :: ds.drop (i + 1) := by
      rw [List.drop_eq_getElem_cons hlt]
      have := List.getElem?_eq_getElem hlt
      rw [hd] at this
      cases this
      rfl
    rw [hdrop] at k1
    obtain ⟨p2, g1, k2⟩ := bind_some' (show (stepB g p d).bind (loopB g (ds.drop (i + 1))) = some z from k1)
    obtain ⟨go, step⟩ := wk.1 i d Mi Hi si Ii.S.ok.sub hd
    refine .inr ⟨go, Inv (i + 1), fun σ' H' h' => ⟨ds.length - (i + 1), by omega, rfl, h'⟩, fun xv H2 hy => ?_⟩
    obtain ⟨M2, ext, rx⟩ := step xv H2 hy
    have S2 := Stp.ext (lk := [2, 3]) Ii.S.ok ext fun a z => z
    have I2 := Ii.pure S2 Ii.n2 Ii.n3
    exact step_okB hΦ (Γ := p.1) (st := p.2) g1 I2 rx _ _ fun σ' M' H' I' s' => ⟨by omega, p2, M', k2, I', (si.trans S2.fr.subM).trans s'⟩
  · have hi' : i = ds.length := by omega
    subst hi'
    rw [List.drop_length] at k1
    cases k1
    exact .inl ⟨wk.2 Hi (si.trans Ii.S.ok.sub), q σi Mi Hi Ii⟩
omit hΦ in
/-- the pile closed: the row is data -/
theorem BInv.done {Γ : Env} {st : Stk} {σ : St} {M H : Hp} (hf : ∀ a, H0 a = none → cl.N a) (I : BInv cl Γ0 σ0 M0 H0 Γ st σ M H) (hl : Γ.length = 13) : ∃ M', Stp cl [] (isOwn Γ0 σ0) Γ0 σ0 M0 H0 (Γ.set 2 (some (.nw (.lst (dWs (rowS st))), false))) σ M' H := by
  obtain ⟨as, F, p, a0, e1, e2, e3, e4, e5, e6, e7⟩ := I.ex
  have sl := e5.len
  have pos : ∃ k, st.length = k + 1 := by
    cases st with
    | nil => exact e5.elim
    | cons s st => exact ⟨st.length, rfl⟩
  obtain ⟨k, hk⟩ := pos
  obtain ⟨a, us, G, f1, f2, f3, f4⟩ := StkH.row k hk e5
  rw [e1] at f1
  cases f1
  have mem : ∀ x, x ∈ F ↔ x ∈ a0 :: G := fun x => f4.mem_iff
  let M' : Hp := fun x => if x ∈ F then H x else M x
  have inF : ∀ {x}, x ∈ F → M' x = H x := fun h => if_pos h
  have outF : ∀ {x}, x ∉ F → M' x = M x := fun h => if_neg h
  have ok := I.S.ok
  have sM : Same M M' := fun x o e => by
    have : x ∉ F := fun z => by
      have := (e7 x (List.mem_cons_of_mem _ z)).2.1
      rw [e] at this
      cases this
    rw [outF this]
    exact e
  have fN : ∀ x ∈ F, cl.N x := fun x hx => hf x (e7 x (List.mem_cons_of_mem _ hx)).1
  have rep : Rep cl M' (.nw (.lst (dWs (rowS st)))) (.ref a0) := by
    have h0 : a0 ∈ F := (mem a0).mpr (by simp)
    refine ⟨⟨a0, us, rfl, (inF h0).trans f2, f3.rep fun x hx => ?_⟩, a0, rfl, fN a0 h0⟩
    have hx' : x ∈ F := (mem x).mpr (by simp [hx])
    exact ⟨inF hx', fN x hx'⟩
  have iso : ∀ x, isOwn (Γ.set 2 (some (.nw (.lst (dWs (rowS st))), false))) σ x → isOwn Γ σ x := fun x ⟨i, d, h1, h2⟩ => by
    refine ⟨i, d, ?_, h2⟩
    by_cases z : i = 2
    · subst z
      rw [Env.at, List.getElem?_set_self (by omega)] at h1
      cases h1
    · rw [Env.at, List.getElem?_set_ne (Ne.symm z)] at h1
      exact h1
  refine ⟨M', ⟨⟨⟨by rw [List.length_set]; exact ok.len, fun x o e => ?_, fun i d b e => ?_, fun i j d e x h1 h2 h3 h4 => ?_⟩, ok.fresh, fun x z => ok.ownN x (iso x z)⟩, ⟨I.S.fr.keep, I.S.fr.live, I.S.fr.subM.trans sM, fun x h h' => ?_⟩, fun x z => I.S.own x (iso x z), (fun j hj => by cases hj), (fun j d hj => by cases hj)⟩⟩
  · by_cases hx : x ∈ F
    · rw [inF hx] at e; exact e
    · rw [outF hx] at e; exact ok.sub x o e
  · by_cases z : i = 2
    · subst z
      rw [Env.at, List.getElem?_set_self (by omega)] at e
      cases e
      exact ⟨.ref a0, e2, rep⟩
    · rw [Env.at, List.getElem?_set_ne (Ne.symm z)] at e
      obtain ⟨v, h1, s⟩ := ok.slot i d b e
      refine ⟨v, h1, ?_⟩
      cases b with
      | false => exact (show Rep cl M d v from s).mono sM
      | true =>
        obtain ⟨x, o, rfl, m, hx, t⟩ := (show ∃ a o, v = V.ref a ∧ M a = none ∧ H a = some o ∧ Top cl M d o from s)
        refine ⟨x, o, rfl, ?_, hx, t.mono sM⟩
        rw [outF fun z => (e7 x (List.mem_cons_of_mem _ z)).2.2 ⟨i, d, e, h1⟩]
        exact m
  · have g1 : Γ.at i = some (d, true) := by
      by_cases z : i = 2
      · subst z
        rw [Env.at, List.getElem?_set_self (by omega)] at h1
        cases h1
      · rw [Env.at, List.getElem?_set_ne (Ne.symm z)] at h1
        exact h1
    have g2 : Γ.at j = some (e, true) := by
      by_cases z : j = 2
      · subst z
        rw [Env.at, List.getElem?_set_self (by omega)] at h2
        cases h2
      · rw [Env.at, List.getElem?_set_ne (Ne.symm z)] at h2
        exact h2
    exact ok.sep i j d e x g1 g2 h3 h4
  · by_cases hx : x ∈ F
    · exact .inl (e7 x (List.mem_cons_of_mem _ hx)).1
    · rw [outF hx] at h'
      exact I.S.fr.new x h h'
omit hΦ in
theorem pre_eq (X : S) (D : Ends) (σ : St) (H : Hp) : trS cl.K Φ (.seq (.set 4 (.lst (.nil))) (.seq (.set 5 (.lst (.nil))) (.seq (.setk 6 (.cst (.int 0))) (.seq kLean (.seq kDraws X))))) D σ H = trS cl.K Φ kPre { D with nx := fun σ H => trS cl.K Φ X D σ H } σ H := by
  unfold kPre
  simp only [trS]
  rfl
theorem snd_built : SndS cl [] (trS cl.K Φ kBuilt) (builtX g) := by
  intro Γ o e σ M H ok D q
  unfold builtX at e
  obtain ⟨c, e⟩ := ite_some e
  obtain ⟨c, c3⟩ := Bool.and_eq_true_iff.mp c
  obtain ⟨c1, c2⟩ := Bool.and_eq_true_iff.mp c
  have n2 := isNone_eq c1
  have n3 := isNone_eq c2
  have hl := of_decide_eq_true c3
  have hσ : σ.length = 13 := by rw [← ok.len]; exact hl
  obtain ⟨Γ1, h1, e⟩ := bind_some' e
  obtain ⟨⟨ds, Γ2⟩, h2, e⟩ := bind_some' e
  obtain ⟨Γ3, h3, eb⟩ := bind_some' e
  obtain ⟨e3, k2, k3⟩ := chkB_ok h3
  clear e
  subst e3
  have e := eb
  clear eb
  obtain ⟨z, h4, e⟩ := bind_some' e
  obtain ⟨hz, e⟩ := ite_some e
  have sz : 10000 < sizeLine := by decide
  -- the row and the pile
  show (0 : Nat) ≤ sizeLine ∧ _
  refine ⟨Nat.zero_le _, fun a ha => ?_⟩
  have s2 : (σ.set 2 (some (.ref a)))[2]? = some (some (.ref a)) := List.getElem?_set_self (by omega)
  refine ⟨.ref a, s2, by show 1 ≤ sizeLine; omega, fun p hp => ?_⟩
  have S0 := Stp.refl (cl := cl) (lk := []) (O := isOwn Γ σ) ok fun _ h => h
  have fa := S0.fresh ha
  have S1 := (S0.poke fa.1 fa.2.1 fa.2.2 (.lst [])).slot n2 (some (.ref a))
  have fp := S1.fresh hp
  have S2 := (S1.poke fp.1 fp.2.1 fp.2.2 (.lst [.ref a])).slot n3 (some (.ref p))
  have ap : a ≠ p := fun z => by rw [z, upd_same] at hp; cases hp
  have at2 : ∀ {i : Nat} {d : Dv.D}, Γ.at i = some (d, true) → i ≠ 2 := fun g1 z => by rw [z, n2] at g1; cases g1
  have at3 : ∀ {i : Nat} {d : Dv.D}, Γ.at i = some (d, true) → i ≠ 3 := fun g1 z => by rw [z, n3] at g1; cases g1
  have fa2 : ¬ isOwn Γ ((σ.set 2 (some (.ref a))).set 3 (some (.ref p))) a := fun ⟨i, d, g1, g2⟩ => fa.2.2 ⟨i, d, g1, by
    rw [List.getElem?_set_ne (at3 g1).symm, List.getElem?_set_ne (at2 g1).symm] at g2
    exact g2⟩
  have fp2 : ¬ isOwn Γ ((σ.set 2 (some (.ref a))).set 3 (some (.ref p))) p := fun ⟨i, d, g1, g2⟩ => fp.2.2 ⟨i, d, g1, by
    rw [List.getElem?_set_ne (at3 g1).symm] at g2
    exact g2⟩
  have I : BInv cl Γ σ M H Γ [("", [])] ((σ.set 2 (some (.ref a))).set 3 (some (.ref p))) M (upd (upd H a (.lst [])) p (.lst [.ref a])) := by
    refine ⟨S2, n2, n3, [a], [a], p, a, rfl, ?_, ?_, upd_same, ⟨a, [], [], rfl, by rw [upd_ne ap, upd_same]; rfl, ⟨rfl, rfl⟩, rfl⟩, by simp [Ne.symm ap], fun x hx => ?_⟩
    · rw [List.getElem?_set_ne (by decide)]; exact s2
    · exact List.getElem?_set_self (by rw [List.length_set]; omega)
    · rcases List.mem_cons.mp hx with h | h
      · rw [h]; exact ⟨fp.1, fp.2.1, fp2⟩
      · rw [List.mem_singleton.mp h]; exact ⟨fa.1, fa.2.1, fa2⟩
  show trS cl.K Φ (.seq (.set 4 (.lst (.nil))) (.seq (.set 5 (.lst (.nil))) (.seq (.setk 6 (.cst (.int 0))) (.seq kLean (.seq kDraws (.seq (.for_ kIt [9] kLoop) kRet)))))) D _ _
  rw [pre_eq]
  refine run_ok hΦ h1 I _ fun σ3 M3 H3 I3 s3 => ?_
  show trS cl.K Φ (.seq (.for_ kIt [9] kLoop) kRet) D σ3 H3
  simp only [trS]
  show (tr cl.K Φ kIt).i σ3 H3 _
  refine (snd_all { g with lk := [2, 3] } (sees_lk hΦ _) kIt).i Γ1 ds Γ3 h2 σ3 M3 H3 I3.S.ok _ fun J M4 H4 S4 _ wk => ?_
  have I4 := I3.pure S4 k2 k3
  refine loop_okB hΦ h4 I4 wk _ fun σ5 M5 H5 I5 => ?_
  obtain ⟨M6, S6⟩ := I5.done ok.fresh hz
  exact sndS_all kRet { g with lk := [] } cl (sees_lk hΦ _) _ o e σ5 M6 H5 S6.ok D (q.after S6)
end
theorem built_body {c0 : Ct0} {g : Cfg} {Φ : Pm} (hΦ : Sees c0 g Φ) {E : XK} {vs : List V} {H : Hp} {Q : VK} {N : List Str} {sg : Sig} (hn : N.length = 13) (hs : sg.io = [false, false]) (h : spOf c0 sg (evX [false, false] 13 (builtX g)) vs H Q E) : trS c0.K (Φ.at E) kBuilt { nx := fun _ H' => Q .non H', rt := Q } (L2.start N vs) H :=
  body_okX hn hs (fun cl e => by subst e; exact snd_built (hΦ.at E)) h
end Dv
namespace Lw
open PySem PySem.Spec L2 Dv
noncomputable section
/-! ### the text by places; printed by gen.py -/
def top (i : Nat) : Stmt := PySem.Challenge.pw_formferry_k01_rows_counted.main.body.getD i (.Pass ⟨0, 0, 0, 0⟩)
/-- size -/
abbrev st_0 : Stmt := top 1
/-- texts -/
abbrev st_1 : Stmt := top 2
/-- word -/
abbrev st_2 : Stmt := top 3
/-- _law_cell_at -/
abbrev st_3 : Stmt := top 5
/-- _law_whole -/
abbrev st_4 : Stmt := top 6
/-- _law_mix -/
abbrev st_5 : Stmt := top 7
/-- _law_texts -/
abbrev st_6 : Stmt := top 8
/-- _law_text -/
abbrev st_7 : Stmt := top 9
/-- _law_name -/
abbrev st_8 : Stmt := top 10
/-- _law_draws -/
abbrev st_9 : Stmt := top 11
/-- _law_built -/
abbrev st_10 : Stmt := top 12
/-- law -/
abbrev st_11 : Stmt := top 13
def N_0 : List Str := ["row", "many", "part"]
theorem sc_0 : FnScope N_0 ["row"] (defScope st_0) := ⟨rfl, rfl, rfl, by decide +kernel, rfl, by decide +kernel, by decide +kernel⟩
def N_1 : List Str := ["row", "found", "part"]
theorem sc_1 : FnScope N_1 ["row"] (defScope st_1) := ⟨rfl, rfl, rfl, by decide +kernel, rfl, by decide +kernel, by decide +kernel⟩
def N_2 : List Str := ["row", "found", "part"]
theorem sc_2 : FnScope N_2 ["row"] (defScope st_2) := ⟨rfl, rfl, rfl, by decide +kernel, rfl, by decide +kernel, by decide +kernel⟩
def N_3 : List Str := ["_law_script", "_law_k"]
theorem sc_3 : FnScope N_3 ["_law_script", "_law_k"] (defScope st_3) := ⟨rfl, rfl, rfl, by decide +kernel, rfl, by decide +kernel, by decide +kernel⟩
def N_4 : List Str := ["_law_found"]
theorem sc_4 : FnScope N_4 ["_law_found"] (defScope st_4) := ⟨rfl, rfl, rfl, by decide +kernel, rfl, by decide +kernel, by decide +kernel⟩
def N_5 : List Str := ["_law_cell", "_law_turn", "_law_number"]
theorem sc_5 : FnScope N_5 ["_law_cell", "_law_turn"] (defScope st_5) := ⟨rfl, rfl, rfl, by decide +kernel, rfl, by decide +kernel, by decide +kernel⟩
def N_6 : List Str := ["_law_found", "_law_due", "_law_k"]
theorem sc_6 : FnScope N_6 ["_law_found", "_law_due"] (defScope st_6) := ⟨rfl, rfl, rfl, by decide +kernel, rfl, by decide +kernel, by decide +kernel⟩
def N_7 : List Str := ["_law_number", "_law_long", "_law_some", "_law_found", "_law_k", "_law_at"]
theorem sc_7 : FnScope N_7 ["_law_number", "_law_long"] (defScope st_7) := ⟨rfl, rfl, rfl, by decide +kernel, rfl, by decide +kernel, by decide +kernel⟩
def N_8 : List Str := ["_law_number", "_law_some", "_law_found", "_law_k"]
theorem sc_8 : FnScope N_8 ["_law_number"] (defScope st_8) := ⟨rfl, rfl, rfl, by decide +kernel, rfl, by decide +kernel, by decide +kernel⟩
def N_9 : List Str := ["_law_script", "_law_turn", "_law_many", "_law_cells", "_law_found", "_law_lefts", "_law_cell", "_law_k", "_law_at", "_law_number"]
theorem sc_9 : FnScope N_9 ["_law_script", "_law_turn", "_law_many"] (defScope st_9) := ⟨rfl, rfl, rfl, by decide +kernel, rfl, by decide +kernel, by decide +kernel⟩
def N_10 : List Str := ["_law_script", "_law_start", "_law_row", "_law_pile", "_law_heads", "_law_told", "_law_many", "_law_lean", "_law_draws_here", "_law_number", "_law_kind", "_law_text_here", "_law_name_here"]
theorem sc_10 : FnScope N_10 ["_law_script", "_law_start"] (defScope st_10) := ⟨rfl, rfl, rfl, by decide +kernel, rfl, by decide +kernel, by decide +kernel⟩
def N_11 : List Str := ["_law_script", "_law_row", "_law_many", "_law_told", "_law_heads", "_law_kept", "_law_found"]
theorem sc_11 : FnScope N_11 ["_law_script"] (defScope st_11) := ⟨rfl, rfl, rfl, by decide +kernel, rfl, by decide +kernel, by decide +kernel⟩
/-! ### the inner tongue -/
/-- size: 0 row, 1 many, 2 part -/
def lb_0_0 : S := .seq (.aug 1 .add (.cst (.int 1))) (.ite (.nt (.isi (.var 2) "str")) (.aug 1 .add (.call 0 (.cons (.idx (.var 2) (.cst (.int 1))) (.nil)))) (.skip))
def b_0 : S := .seq (.setk 1 (.cst (.int 0))) (.seq (.for_ (.itL (.var 0)) [2] (lb_0_0)) (.ret (.var 1)))
/-- texts: 0 row, 1 found, 2 part -/
def lb_1_0 : S := .ite (.isi (.var 2) "str") (.ex (.mut .append 1 (.cons (.var 2) .nil))) (.ex (.mut .extend 1 (.cons (.call 1 (.cons (.idx (.var 2) (.cst (.int 1))) (.nil))) .nil)))
def b_1 : S := .seq (.set 1 (.lst (.nil))) (.seq (.for_ (.itL (.var 0)) [2] (lb_1_0)) (.ret (.var 1)))
/-- word: 0 row, 1 found, 2 part -/
def lb_2_0 : S := .ite (.isi (.var 2) "str") (.ex (.mut .append 1 (.cons (.cst (.str "#")) .nil))) (.ex (.mut .append 1 (.cons (.idx (.var 2) (.cst (.int 0))) .nil)))
def b_2 : S := .seq (.set 1 (.lst (.nil))) (.seq (.for_ (.itL (.var 0)) [2] (lb_2_0)) (.ret (.var 1)))
/-- _law_cell_at: 0 _law_script, 1 _law_k -/
def b_3 : S := .seq (.ite (.cmp .lt (.var 1) (.bi .len (.cons (.var 0) (.nil)))) (.ret (.idx (.var 0) (.var 1))) (.skip)) (.ret (.cst (.int 0)))
/-- _law_whole: 0 _law_found -/
def b_4 : S := .ret (.and_ (.isi (.var 0) "int") (.nt (.isi (.var 0) "bool")))
/-- _law_mix: 0 _law_cell, 1 _law_turn, 2 _law_number -/
def b_5 : S := .seq (.setk 2 (.bin .mod (.bin .mul (.bin .add (.bin .add (.bin .mod (.var 0) (.cst (.int 2147483647))) (.bin .mul (.bin .mul (.var 1) (.var 1)) (.cst (.int 7919)))) (.cst (.int 104729))) (.cst (.int 48271))) (.cst (.int 2147483647)))) (.ret (.bin .mod (.bin .add (.bin .mul (.var 2) (.var 2)) (.bin .mul (.cst (.int 69621)) (.var 1))) (.cst (.int 2147483629))))
/-- _law_texts: 0 _law_found, 1 _law_due, 2 _law_k -/
def lb_6_0 : S := .ite (.or_ (.nt (.isi (.idx (.var 0) (.var 2)) "str")) (.cmp .ne (.idx (.var 0) (.var 2)) (.idx (.var 1) (.var 2)))) (.ret (.cst (.bl false))) (.skip)
def b_6 : S := .seq (.ite (.or_ (.nt (.isi (.var 0) "list")) (.cmp .ne (.bi .len (.cons (.var 0) (.nil))) (.bi .len (.cons (.var 1) (.nil))))) (.ret (.cst (.bl false))) (.skip)) (.seq (.for_ (.itR1 (.cons (.bi .len (.cons (.var 1) (.nil))) (.nil))) [2] (lb_6_0)) (.ret (.cst (.bl true))))
/-- _law_text: 0 _law_number, 1 _law_long, 2 _law_some, 3 _law_found, 4 _law_k, 5 _law_at -/
def lb_7_0 : S := .seq (.setk 5 (.bin .add (.bin .add (.bin .fdiv (.var 0) (.cst (.int 7))) (.bin .mul (.var 4) (.bin .add (.cst (.int 1)) (.bin .mod (.var 0) (.cst (.int 13)))))) (.bin .mul (.var 4) (.var 4)))) (.setk 3 (.bin .add (.var 3) (.idx (.var 2) (.bin .mod (.var 5) (.bi .len (.cons (.var 2) (.nil)))))))
def b_7 : S := .seq (.setk 2 (.cst (.str " !\"#$&'()*+,-./0123456789:;<=>?@ABCDEFGHIJKLMNOPQRSTUVWXYZ[\\]^_`"))) (.seq (.setk 2 (.bin .add (.var 2) (.cst (.str "abcdefghijklmnopqrstuvwxyz{|}~")))) (.seq (.setk 3 (.cst (.str ""))) (.seq (.for_ (.itR1 (.cons (.var 1) (.nil))) [4] (lb_7_0)) (.ret (.var 3)))))
/-- _law_name: 0 _law_number, 1 _law_some, 2 _law_found, 3 _law_k -/
def lb_8_0 : S := .setk 2 (.bin .add (.var 2) (.idx (.var 1) (.bin .mod (.bin .add (.bin .fdiv (.var 0) (.cst (.int 7))) (.bin .mul (.var 3) (.bin .add (.cst (.int 1)) (.bin .mod (.var 0) (.cst (.int 5)))))) (.cst (.int 26)))))
def b_8 : S := .seq (.setk 1 (.cst (.str "abcdefghijklmnopqrstuvwxyz"))) (.seq (.setk 2 (.cst (.str ""))) (.seq (.for_ (.itR1 (.cons (.bin .add (.bin .add (.cst (.int 1)) (.bin .mod (.bin .fdiv (.var 0) (.cst (.int 31))) (.cst (.int 3)))) (.bin .mul (.cst (.int 9)) (.bi .int1 (.cons (.cmp .eq (.bin .mod (.bin .fdiv (.var 0) (.cst (.int 93))) (.cst (.int 7))) (.cst (.int 3))) (.nil))))) (.nil))) [3] (lb_8_0)) (.ret (.var 2))))
/-- _law_draws: 0 _law_script, 1 _law_turn, 2 _law_many, 3 _law_cells, 4 _law_found, 5 _law_lefts, 6 _law_cell, 7 _law_k, 8 _law_at, 9 _law_number -/
def ce_9_0 : E := .bin .fdiv (.var 6) (.cst (.int 100000))
def lb_9_0 : S := .seq (.setk 8 (.bin .mod (.var 7) (.bi .len (.cons (.var 5) (.nil))))) (.seq (.ex (.mut .append 4 (.cons (.bin .mod (.idx (.var 5) (.var 8)) (.cst (.int 2147483587))) .nil))) (.setI (.var 5) (.var 8) (.bin .fdiv (.idx (.var 5) (.var 8)) (.cst (.int 2147483587)))))
def lb_9_1 : S := .seq (.setk 9 (.call 5 (.cons (.idx (.var 3) (.bin .mod (.var 7) (.bi .len (.cons (.var 3) (.nil))))) (.cons (.bin .add (.var 7) (.var 1)) (.nil))))) (.ex (.mut .append 4 (.cons (.bin .mod (.bin .add (.bin .mul (.var 9) (.var 9)) (.bin .mul (.cst (.int 7)) (.var 7))) (.cst (.int 2147483587))) .nil)))
def b_9 : S := .seq (.setk 3 (.bin .add (.sl (.var 0) (.nopart) (.cst (.int 63))) (.lst (.cons (.var 1) (.nil))))) (.seq (.set 4 (.lst (.nil))) (.seq (.ite (.cmp .eq (.bin .mod (.bin .fdiv (.idx (.var 3) (.cst (.int 0))) (.cst (.int 50000))) (.cst (.int 2))) (.cst (.int 1))) (.seq (.set 5 (.comp [6] (.itL (.var 3)) [6] (.nopart) (ce_9_0))) (.seq (.for_ (.itR1 (.cons (.bin .add (.var 1) (.var 2)) (.nil))) [7] (lb_9_0)) (.ret (.sl (.var 4) (.var 1) (.nopart))))) (.skip)) (.seq (.for_ (.itR1 (.cons (.var 2) (.nil))) [7] (lb_9_1)) (.ret (.var 4)))))
/-- _law_built: 0 _law_script, 1 _law_start, 2 _law_row, 3 _law_pile, 4 _law_heads, 5 _law_told, 6 _law_many, 7 _law_lean, 8 _law_draws_here, 9 _law_number, 10 _law_kind, 11 _law_text_here, 12 _law_name_here -/
def b_10 : S := .seq (.setk 2 (.lst (.nil))) (.seq (.set 3 (.lst (.cons (.var 2) (.nil)))) (.seq (.set 4 (.lst (.nil))) (.seq (.set 5 (.lst (.nil))) (.seq (.setk 6 (.cst (.int 0))) (.seq (.setk 7 (.bin .mod (.call 5 (.cons (.call 3 (.cons (.var 0) (.cons (.cst (.int 0)) (.nil)))) (.cons (.cst (.int 3)) (.nil)))) (.cst (.int 3)))) (.seq (.setk 8 (.call 9 (.cons (.var 0) (.cons (.bin .add (.cst (.int 4)) (.var 1)) (.cons (.cst (.int 60)) (.nil)))))) (.seq (.for_ (.itL (.sl (.var 8) (.nopart) (.bin .mod (.idx (.var 8) (.cst (.int 59))) (.cst (.int 60))))) [9] (.seq (.setk 10 (.bin .mod (.var 9) (.idx (.lst (.cons (.cst (.int 3)) (.cons (.cst (.int 8)) (.cons (.cst (.int 3)) (.nil))))) (.var 7)))) (.seq (.setk 11 (.call 7 (.cons (.bin .fdiv (.var 9) (.cst (.int 3))) (.cons (.bin .mod (.bin .fdiv (.var 9) (.cst (.int 11))) (.idx (.lst (.cons (.cst (.int 20)) (.cons (.cst (.int 61)) (.nil)))) (.bi .int1 (.cons (.cmp .eq (.bin .mod (.bin .fdiv (.var 9) (.cst (.int 7))) (.cst (.int 5))) (.cst (.int 0))) (.nil))))) (.nil))))) (.seq (.ite (.and_ (.cmp .eq (.var 10) (.cst (.int 1))) (.cmp .gt (.bi .len (.cons (.var 3) (.nil))) (.cst (.int 1)))) (.seq (.ex (.mut .pop 3 .nil)) (.cnt)) (.skip)) (.seq (.setk 6 (.bin .add (.var 6) (.cst (.int 1)))) (.ite (.or_ (.cmp .eq (.var 10) (.cst (.int 0))) (.and_ (.cmp .eq (.var 7) (.cst (.int 1))) (.cmp .gt (.var 10) (.cst (.int 2))))) (.seq (.setk 12 (.call 8 (.cons (.bin .fdiv (.var 9) (.cst (.int 3))) (.nil)))) (.seq (.ite (.cmp .eq (.bi .len (.cons (.var 3) (.nil))) (.cst (.int 1))) (.ex (.mut .append 4 (.cons (.var 12) .nil))) (.skip)) (.seq (.ex (.mutE .append (.idx (.var 3) (.neg (.cst (.int 1)))) (.cons (.tup (.cons (.var 12) (.cons (.lst (.nil)) (.nil)))) .nil))) (.ex (.mut .append 3 (.cons (.idx (.idx (.idx (.var 3) (.neg (.cst (.int 1)))) (.neg (.cst (.int 1)))) (.cst (.int 1))) .nil)))))) (.seq (.ite (.cmp .eq (.bi .len (.cons (.var 3) (.nil))) (.cst (.int 1))) (.ex (.mut .append 4 (.cons (.cst (.str "#")) .nil))) (.skip)) (.seq (.ex (.mutE .append (.idx (.var 3) (.neg (.cst (.int 1)))) (.cons (.var 11) .nil))) (.ex (.mut .append 5 (.cons (.var 11) .nil))))))))))) (.ret (.tup (.cons (.var 2) (.cons (.var 6) (.cons (.var 5) (.cons (.var 4) (.nil))))))))))))))
/-- law: 0 _law_script, 1 _law_row, 2 _law_many, 3 _law_told, 4 _law_heads, 5 _law_kept, 6 _law_found -/
def b_11 : S := .seq (.unp [1, 2, 3, 4] (.call 10 (.cons (.var 0) (.cons (.cst (.int 1)) (.nil))))) (.seq (.setk 5 (.idx (.call 10 (.cons (.var 0) (.cons (.cst (.int 1)) (.nil)))) (.cst (.int 0)))) (.seq (.setk 6 (.call 0 (.cons (.var 1) (.nil)))) (.seq (.ite (.or_ (.nt (.call 4 (.cons (.var 6) (.nil)))) (.cmp .ne (.var 6) (.var 2))) (.ret (.cst (.bl false))) (.skip)) (.ret (.and_ (.call 6 (.cons (.call 1 (.cons (.var 1) (.nil))) (.cons (.var 3) (.nil)))) (.and_ (.call 6 (.cons (.call 2 (.cons (.var 1) (.nil))) (.cons (.var 4) (.nil)))) (.cmp .eq (.var 1) (.var 5))))))))
def sg : Nat → Sig
  | 0 => ⟨[false], true⟩
  | 1 => ⟨[false], false⟩
  | 2 => ⟨[false], false⟩
  | 3 => ⟨[false, false], false⟩
  | 4 => ⟨[false], true⟩
  | 5 => ⟨[false, false], true⟩
  | 6 => ⟨[false, false], true⟩
  | 7 => ⟨[false, false], false⟩
  | 8 => ⟨[false], false⟩
  | 9 => ⟨[false, false, false], false⟩
  | 10 => ⟨[false, false], false⟩
  | 11 => ⟨[false], true⟩
  | _ => ⟨[], false⟩
theorem sg_0 : sg 0 = ⟨[false], true⟩ := rfl
theorem sg_1 : sg 1 = ⟨[false], false⟩ := rfl
theorem sg_2 : sg 2 = ⟨[false], false⟩ := rfl
theorem sg_3 : sg 3 = ⟨[false, false], false⟩ := rfl
theorem sg_4 : sg 4 = ⟨[false], true⟩ := rfl
theorem sg_5 : sg 5 = ⟨[false, false], true⟩ := rfl
theorem sg_6 : sg 6 = ⟨[false, false], true⟩ := rfl
theorem sg_7 : sg 7 = ⟨[false, false], false⟩ := rfl
theorem sg_8 : sg 8 = ⟨[false], false⟩ := rfl
theorem sg_9 : sg 9 = ⟨[false, false, false], false⟩ := rfl
theorem sg_10 : sg 10 = ⟨[false, false], false⟩ := rfl
theorem sg_11 : sg 11 = ⟨[false], true⟩ := rfl
def fn : Nat → Fn
  | 0 => ⟨[false], 3, b_0⟩
  | 1 => ⟨[false], 3, b_1⟩
  | 2 => ⟨[false], 3, b_2⟩
  | 3 => ⟨[false, false], 2, b_3⟩
  | 4 => ⟨[false], 1, b_4⟩
  | 5 => ⟨[false, false], 3, b_5⟩
  | 6 => ⟨[false, false], 3, b_6⟩
  | 7 => ⟨[false, false], 6, b_7⟩
  | 8 => ⟨[false], 4, b_8⟩
  | 9 => ⟨[false, false, false], 10, b_9⟩
  | 11 => ⟨[false], 7, b_11⟩
  | _ => ⟨[], 0, .never⟩
/-- what the text is asked for -/
structure Txt (P : Program) (w : World) (K : PySem.W.Frag) (mg : Str → Option Value) (base : Heap) (k : Nat) (Φ : Pm) : Prop where
  c0 : FnAt P w K mg base k "size" (Φ.sp 0)
  c1 : FnAt P w K mg base k "texts" (Φ.sp 1)
  c2 : FnAt P w K mg base k "word" (Φ.sp 2)
  c3 : FnAt P w K mg base k "_law_cell_at" (Φ.sp 3)
  c4 : FnAt P w K mg base k "_law_whole" (Φ.sp 4)
  c5 : FnAt P w K mg base k "_law_mix" (Φ.sp 5)
  c6 : FnAt P w K mg base k "_law_texts" (Φ.sp 6)
  c7 : FnAt P w K mg base k "_law_text" (Φ.sp 7)
  c8 : FnAt P w K mg base k "_law_name" (Φ.sp 8)
  c9 : FnAt P w K mg base k "_law_draws" (Φ.sp 9)
  c10 : FnAt P w K mg base k "_law_built" (Φ.sp 10)
  c11 : FnAt P w K mg base k "law" (Φ.sp 11)
  b_bool : mg "bool" = none
  b_int : mg "int" = none
  b_isinstance : mg "isinstance" = none
  b_len : mg "len" = none
  b_list : mg "list" = none
  b_range : mg "range" = none
  b_str : mg "str" = none
theorem Txt.at {P : Program} {w : World} {K : PySem.W.Frag} {mg : Str → Option Value} {base : Heap} {k : Nat} {Φ : Pm} (T : Txt P w K mg base k Φ) (E : XK) : Txt P w K mg base k (Φ.at E) := { c0 := T.c0, c1 := T.c1, c2 := T.c2, c3 := T.c3, c4 := T.c4, c5 := T.c5, c6 := T.c6, c7 := T.c7, c8 := T.c8, c9 := T.c9, c10 := T.c10, c11 := T.c11, b_bool := T.b_bool, b_int := T.b_int, b_isinstance := T.b_isinstance, b_len := T.b_len, b_list := T.b_list, b_range := T.b_range, b_str := T.b_str }
section
variable {P : Program} {w : World} {K : PySem.W.Frag} {mg : Str → Option Value} {base : Heap} {k : Nat} {Φ : Pm} {f : Addr} {cdv : Value} {A : Around} {outer : List PySem.Env} {s : Shared} {H : Hp} {E : XK}
theorem der_0 (T0 : Txt P w K mg base k Φ) (h2 : 2 ≤ k + 1) (hr : Room (k + 1) (A.deeper (PyProof.Rows.envOfC "size" (defScope st_0) s.heap.objs.size f cdv))) : PSs (cxOf (CXr P w) P w K mg base N_0 "size" (defScope st_0) f cdv A outer s H E) (defBody st_0) (trS K (Φ.at E) b_0) :=
  have T := T0.at E
  s_cons (s_setk 1 sc_0.nd (d_int)) (s_cons (s_for cx_po rfl (i_L (d_v 0)) (g_nm 2 sc_0.nd) (s_cons (s_aug 1 .add sc_0.nd (d_int)) (s_one (s_if (t_nt (t_tru (d_isi rfl rfl rfl T.b_isinstance rfl T.b_str (d_v 2)))) (s_one (s_aug 1 .add sc_0.nd (d_call 0 T.c0 cx_px (hr.mono (Nat.le_succ _)) rfl (a_cons (d_idx hr (d_v 2) (d_int)) (a_nil))))) (s_nil))))) (s_one (s_ret (d_v 1))))
theorem der_1 (T0 : Txt P w K mg base k Φ) (h2 : 2 ≤ k + 1) (hr : Room (k + 1) (A.deeper (PyProof.Rows.envOfC "texts" (defScope st_1) s.heap.objs.size f cdv))) : PSs (cxOf (CXr P w) P w K mg base N_1 "texts" (defScope st_1) f cdv A outer s H E) (defBody st_1) (trS K (Φ.at E) b_1) :=
  have T := T0.at E
  s_cons (s_set 1 sc_1.nd (d_lst (a_nil))) (s_cons (s_for cx_po rfl (i_L (d_v 0)) (g_nm 2 sc_1.nd) (s_one (s_if (t_tru (d_isi rfl rfl rfl T.b_isinstance rfl T.b_str (d_v 2))) (s_one (s_ex (d_mut1 .append PySem.F.slot_list_append PySem.F.type_list_append mt_append (d_v 1) (d_v 2)))) (s_one (s_ex (d_mut1 .extend PySem.F.slot_list_extend PySem.F.type_list_extend mt_extend (d_v 1) (d_call 1 T.c1 cx_px (hr.mono (Nat.le_succ _)) rfl (a_cons (d_idx hr (d_v 2) (d_int)) (a_nil))))))))) (s_one (s_ret (d_v 1))))
theorem der_2 (T0 : Txt P w K mg base k Φ) (h2 : 2 ≤ k + 1) (hr : Room (k + 1) (A.deeper (PyProof.Rows.envOfC "word" (defScope st_2) s.heap.objs.size f cdv))) : PSs (cxOf (CXr P w) P w K mg base N_2 "word" (defScope st_2) f cdv A outer s H E) (defBody st_2) (trS K (Φ.at E) b_2) :=
  have T := T0.at E
  s_cons (s_set 1 sc_2.nd (d_lst (a_nil))) (s_cons (s_for cx_po rfl (i_L (d_v 0)) (g_nm 2 sc_2.nd) (s_one (s_if (t_tru (d_isi rfl rfl rfl T.b_isinstance rfl T.b_str (d_v 2))) (s_one (s_ex (d_mut1 .append PySem.F.slot_list_append PySem.F.type_list_append mt_append (d_v 1) (d_str)))) (s_one (s_ex (d_mut1 .append PySem.F.slot_list_append PySem.F.type_list_append mt_append (d_v 1) (d_idx hr (d_v 2) (d_int)))))))) (s_one (s_ret (d_v 1))))
theorem der_3 (T0 : Txt P w K mg base k Φ) (h2 : 2 ≤ k + 1) (hr : Room (k + 1) (A.deeper (PyProof.Rows.envOfC "_law_cell_at" (defScope st_3) s.heap.objs.size f cdv))) : PSs (cxOf (CXr P w) P w K mg base N_3 "_law_cell_at" (defScope st_3) f cdv A outer s H E) (defBody st_3) (trS K (Φ.at E) b_3) :=
  have T := T0.at E
  s_cons (s_if (t_cmp .lt hr (d_v 1) (d_bi .len rfl rfl rfl T.b_len (a_cons (d_v 0) (a_nil)))) (s_one (s_ret (d_idx hr (d_v 0) (d_v 1)))) (s_nil)) (s_one (s_ret (d_int)))
theorem der_4 (T0 : Txt P w K mg base k Φ) (h2 : 2 ≤ k + 1) (hr : Room (k + 1) (A.deeper (PyProof.Rows.envOfC "_law_whole" (defScope st_4) s.heap.objs.size f cdv))) : PSs (cxOf (CXr P w) P w K mg base N_4 "_law_whole" (defScope st_4) f cdv A outer s H E) (defBody st_4) (trS K (Φ.at E) b_4) :=
  have T := T0.at E
  s_one (s_ret (d_and (d_isi rfl rfl rfl T.b_isinstance rfl T.b_int (d_v 0)) (d_one (d_nt (d_isi rfl rfl rfl T.b_isinstance rfl T.b_bool (d_v 0))))))
theorem der_5 (T0 : Txt P w K mg base k Φ) (h2 : 2 ≤ k + 1) (hr : Room (k + 1) (A.deeper (PyProof.Rows.envOfC "_law_mix" (defScope st_5) s.heap.objs.size f cdv))) : PSs (cxOf (CXr P w) P w K mg base N_5 "_law_mix" (defScope st_5) f cdv A outer s H E) (defBody st_5) (trS K (Φ.at E) b_5) :=
  have T := T0.at E
  s_cons (s_setk 2 sc_5.nd (d_bin .mod (d_bin .mul (d_bin .add (d_bin .add (d_bin .mod (d_v 0) (d_int)) (d_bin .mul (d_bin .mul (d_v 1) (d_v 1)) (d_int))) (d_int)) (d_int)) (d_int))) (s_one (s_ret (d_bin .mod (d_bin .add (d_bin .mul (d_v 2) (d_v 2)) (d_bin .mul (d_int) (d_v 1))) (d_int))))
theorem der_6 (T0 : Txt P w K mg base k Φ) (h2 : 2 ≤ k + 1) (hr : Room (k + 1) (A.deeper (PyProof.Rows.envOfC "_law_texts" (defScope st_6) s.heap.objs.size f cdv))) : PSs (cxOf (CXr P w) P w K mg base N_6 "_law_texts" (defScope st_6) f cdv A outer s H E) (defBody st_6) (trS K (Φ.at E) b_6) :=
  have T := T0.at E
  s_cons (s_if (w_pt (w_or (t_nt (t_tru (d_isi rfl rfl rfl T.b_isinstance rfl T.b_list (d_v 0)))) (w_or1 (t_cmp .ne hr (d_bi .len rfl rfl rfl T.b_len (a_cons (d_v 0) (a_nil))) (d_bi .len rfl rfl rfl T.b_len (a_cons (d_v 1) (a_nil))))))) (s_one (s_ret (d_bl))) (s_nil)) (s_cons (s_for cx_po rfl (i_R1 rfl T.b_range (a_cons (d_bi .len rfl rfl rfl T.b_len (a_cons (d_v 1) (a_nil))) (a_nil))) (g_nm 2 sc_6.nd) (s_one (s_if (w_pt (w_or (t_nt (t_tru (d_isi rfl rfl rfl T.b_isinstance rfl T.b_str (d_idx hr (d_v 0) (d_v 2))))) (w_or1 (t_cmp .ne hr (d_idx hr (d_v 0) (d_v 2)) (d_idx hr (d_v 1) (d_v 2)))))) (s_one (s_ret (d_bl))) (s_nil)))) (s_one (s_ret (d_bl))))
theorem der_7 (T0 : Txt P w K mg base k Φ) (h2 : 2 ≤ k + 1) (hr : Room (k + 1) (A.deeper (PyProof.Rows.envOfC "_law_text" (defScope st_7) s.heap.objs.size f cdv))) : PSs (cxOf (CXr P w) P w K mg base N_7 "_law_text" (defScope st_7) f cdv A outer s H E) (defBody st_7) (trS K (Φ.at E) b_7) :=
  have T := T0.at E
  s_cons (s_setk 2 sc_7.nd (d_str)) (s_cons (s_setk 2 sc_7.nd (d_bin .add (d_v 2) (d_str))) (s_cons (s_setk 3 sc_7.nd (d_str)) (s_cons (s_for cx_po rfl (i_R1 rfl T.b_range (a_cons (d_v 1) (a_nil))) (g_nm 4 sc_7.nd) (s_cons (s_setk 5 sc_7.nd (d_bin .add (d_bin .add (d_bin .fdiv (d_v 0) (d_int)) (d_bin .mul (d_v 4) (d_bin .add (d_int) (d_bin .mod (d_v 0) (d_int))))) (d_bin .mul (d_v 4) (d_v 4)))) (s_one (s_setk 3 sc_7.nd (d_bin .add (d_v 3) (d_idx hr (d_v 2) (d_bin .mod (d_v 5) (d_bi .len rfl rfl rfl T.b_len (a_cons (d_v 2) (a_nil)))))))))) (s_one (s_ret (d_v 3))))))
theorem der_8 (T0 : Txt P w K mg base k Φ) (h2 : 2 ≤ k + 1) (hr : Room (k + 1) (A.deeper (PyProof.Rows.envOfC "_law_name" (defScope st_8) s.heap.objs.size f cdv))) : PSs (cxOf (CXr P w) P w K mg base N_8 "_law_name" (defScope st_8) f cdv A outer s H E) (defBody st_8) (trS K (Φ.at E) b_8) :=
  have T := T0.at E
  s_cons (s_setk 1 sc_8.nd (d_str)) (s_cons (s_setk 2 sc_8.nd (d_str)) (s_cons (s_for cx_po rfl (i_R1 rfl T.b_range (a_cons (d_bin .add (d_bin .add (d_int) (d_bin .mod (d_bin .fdiv (d_v 0) (d_int)) (d_int))) (d_bin .mul (d_int) (d_bi .int1 rfl rfl rfl T.b_int (a_cons (d_cmp .eq hr (d_bin .mod (d_bin .fdiv (d_v 0) (d_int)) (d_int)) (d_int)) (a_nil))))) (a_nil))) (g_nm 3 sc_8.nd) (s_one (s_setk 2 sc_8.nd (d_bin .add (d_v 2) (d_idx hr (d_v 1) (d_bin .mod (d_bin .add (d_bin .fdiv (d_v 0) (d_int)) (d_bin .mul (d_v 3) (d_bin .add (d_int) (d_bin .mod (d_v 0) (d_int))))) (d_int))))))) (s_one (s_ret (d_v 2)))))
theorem der_9 (T0 : Txt P w K mg base k Φ) (h2 : 2 ≤ k + 1) (hr : Room (k + 1) (A.deeper (PyProof.Rows.envOfC "_law_draws" (defScope st_9) s.heap.objs.size f cdv))) : PSs (cxOf (CXr P w) P w K mg base N_9 "_law_draws" (defScope st_9) f cdv A outer s H E) (defBody st_9) (trS K (Φ.at E) b_9) :=
  have T := T0.at E
  s_cons (s_setk 3 sc_9.nd (d_bin .add (d_sl (d_v 0) (o_none) (o_some (d_int))) (d_lst (a_cons (d_v 1) (a_nil))))) (s_cons (s_set 4 sc_9.nd (d_lst (a_nil))) (s_cons (s_if (t_cmp .eq hr (d_bin .mod (d_bin .fdiv (d_idx hr (d_v 3) (d_int)) (d_int)) (d_int)) (d_int)) (s_cons (s_setC 5 [("_law_cell", 6)] rfl rfl sc_9.nd (i_L (d_v 3)) (by rfl) (fun _ _ _ _ _ => g_nm 6 sc_9.nd) (fun _ _ _ _ _ => ts_nil) (fun _ _ _ _ _ => d_bin .fdiv (d_v 6) (d_int))) (s_cons (s_for cx_po rfl (i_R1 rfl T.b_range (a_cons (d_bin .add (d_v 1) (d_v 2)) (a_nil))) (g_nm 7 sc_9.nd) (s_cons (s_setk 8 sc_9.nd (d_bin .mod (d_v 7) (d_bi .len rfl rfl rfl T.b_len (a_cons (d_v 5) (a_nil))))) (s_cons (s_ex (d_mut1 .append PySem.F.slot_list_append PySem.F.type_list_append mt_append (d_v 4) (d_bin .mod (d_idx hr (d_v 5) (d_v 8)) (d_int)))) (s_one (s_setI hr (d_bin .fdiv (d_idx hr (d_v 5) (d_v 8)) (d_int)) (d_v 5) (d_v 8)))))) (s_one (s_ret (d_sl (d_v 4) (o_some (d_v 1)) (o_none)))))) (s_nil)) (s_cons (s_for cx_po rfl (i_R1 rfl T.b_range (a_cons (d_v 2) (a_nil))) (g_nm 7 sc_9.nd) (s_cons (s_setk 9 sc_9.nd (d_call 5 T.c5 cx_px (hr.mono (Nat.le_succ _)) rfl (a_cons (d_idx hr (d_v 3) (d_bin .mod (d_v 7) (d_bi .len rfl rfl rfl T.b_len (a_cons (d_v 3) (a_nil))))) (a_cons (d_bin .add (d_v 7) (d_v 1)) (a_nil))))) (s_one (s_ex (d_mut1 .append PySem.F.slot_list_append PySem.F.type_list_append mt_append (d_v 4) (d_bin .mod (d_bin .add (d_bin .mul (d_v 9) (d_v 9)) (d_bin .mul (d_int) (d_v 7))) (d_int))))))) (s_one (s_ret (d_v 4))))))
theorem der_10 (T0 : Txt P w K mg base k Φ) (h2 : 2 ≤ k + 1) (hr : Room (k + 1) (A.deeper (PyProof.Rows.envOfC "_law_built" (defScope st_10) s.heap.objs.size f cdv))) : PSs (cxOf (CXr P w) P w K mg base N_10 "_law_built" (defScope st_10) f cdv A outer s H E) (defBody st_10) (trS K (Φ.at E) b_10) :=
  have T := T0.at E
  s_cons (s_setk 2 sc_10.nd (d_lst (a_nil))) (s_cons (s_set 3 sc_10.nd (d_lst (a_cons (d_v 2) (a_nil)))) (s_cons (s_set 4 sc_10.nd (d_lst (a_nil))) (s_cons (s_set 5 sc_10.nd (d_lst (a_nil))) (s_cons (s_setk 6 sc_10.nd (d_int)) (s_cons (s_setk 7 sc_10.nd (d_bin .mod (d_call 5 T.c5 cx_px (hr.mono (Nat.le_succ _)) rfl (a_cons (d_call 3 T.c3 cx_px (hr.mono (Nat.le_succ _)) rfl (a_cons (d_v 0) (a_cons (d_int) (a_nil)))) (a_cons (d_int) (a_nil)))) (d_int))) (s_cons (s_setk 8 sc_10.nd (d_call 9 T.c9 cx_px (hr.mono (Nat.le_succ _)) rfl (a_cons (d_v 0) (a_cons (d_bin .add (d_int) (d_v 1)) (a_cons (d_int) (a_nil)))))) (s_cons (s_for cx_po rfl (i_L (d_sl (d_v 8) (o_none) (o_some (d_bin .mod (d_idx hr (d_v 8) (d_int)) (d_int))))) (g_nm 9 sc_10.nd) (s_cons (s_setk 10 sc_10.nd (d_bin .mod (d_v 9) (d_idx hr (d_lst (a_cons (d_int) (a_cons (d_int) (a_cons (d_int) (a_nil))))) (d_v 7)))) (s_cons (s_setk 11 sc_10.nd (d_call 7 T.c7 cx_px (hr.mono (Nat.le_succ _)) rfl (a_cons (d_bin .fdiv (d_v 9) (d_int)) (a_cons (d_bin .mod (d_bin .fdiv (d_v 9) (d_int)) (d_idx hr (d_lst (a_cons (d_int) (a_cons (d_int) (a_nil)))) (d_bi .int1 rfl rfl rfl T.b_int (a_cons (d_cmp .eq hr (d_bin .mod (d_bin .fdiv (d_v 9) (d_int)) (d_int)) (d_int)) (a_nil))))) (a_nil))))) (s_cons (s_if (w_pt (w_and (t_cmp .eq hr (d_v 10) (d_int)) (w_and1 (t_cmp .gt hr (d_bi .len rfl rfl rfl T.b_len (a_cons (d_v 3) (a_nil))) (d_int))))) (s_cons (s_ex (d_mut0 .pop PySem.F.slot_list_pop PySem.F.type_list_pop mt_pop (d_v 3))) (s_one (s_cnt))) (s_nil)) (s_cons (s_setk 6 sc_10.nd (d_bin .add (d_v 6) (d_int))) (s_one (s_if (w_pt (w_or (t_cmp .eq hr (d_v 10) (d_int)) (w_or1 (w_pt (w_and (t_cmp .eq hr (d_v 7) (d_int)) (w_and1 (t_cmp .gt hr (d_v 10) (d_int)))))))) (s_cons (s_setk 12 sc_10.nd (d_call 8 T.c8 cx_px (hr.mono (Nat.le_succ _)) rfl (a_cons (d_bin .fdiv (d_v 9) (d_int)) (a_nil)))) (s_cons (s_if (t_cmp .eq hr (d_bi .len rfl rfl rfl T.b_len (a_cons (d_v 3) (a_nil))) (d_int)) (s_one (s_ex (d_mut1 .append PySem.F.slot_list_append PySem.F.type_list_append mt_append (d_v 4) (d_v 12)))) (s_nil)) (s_cons (s_ex (d_mutE1 .append PySem.F.slot_list_append PySem.F.type_list_append mt_append (d_idx hr (d_v 3) (d_neg (d_int))) (d_tup (a_cons (d_v 12) (a_cons (d_lst (a_nil)) (a_nil)))))) (s_one (s_ex (d_mut1 .append PySem.F.slot_list_append PySem.F.type_list_append mt_append (d_v 3) (d_idx hr (d_idx hr (d_idx hr (d_v 3) (d_neg (d_int))) (d_neg (d_int))) (d_int)))))))) (s_cons (s_if (t_cmp .eq hr (d_bi .len rfl rfl rfl T.b_len (a_cons (d_v 3) (a_nil))) (d_int)) (s_one (s_ex (d_mut1 .append PySem.F.slot_list_append PySem.F.type_list_append mt_append (d_v 4) (d_str)))) (s_nil)) (s_cons (s_ex (d_mutE1 .append PySem.F.slot_list_append PySem.F.type_list_append mt_append (d_idx hr (d_v 3) (d_neg (d_int))) (d_v 11))) (s_one (s_ex (d_mut1 .append PySem.F.slot_list_append PySem.F.type_list_append mt_append (d_v 5) (d_v 11))))))))))))) (s_one (s_ret (d_tup (a_cons (d_v 2) (a_cons (d_v 6) (a_cons (d_v 5) (a_cons (d_v 4) (a_nil)))))))))))))))
theorem der_11 (T0 : Txt P w K mg base k Φ) (h2 : 2 ≤ k + 1) (hr : Room (k + 1) (A.deeper (PyProof.Rows.envOfC "law" (defScope st_11) s.heap.objs.size f cdv))) : PSs (cxOf (CXr P w) P w K mg base N_11 "law" (defScope st_11) f cdv A outer s H E) (defBody st_11) (trS K (Φ.at E) b_11) :=
  have T := T0.at E
  s_cons (s_unp (d_call 10 T.c10 cx_px (hr.mono (Nat.le_succ _)) rfl (a_cons (d_v 0) (a_cons (d_int) (a_nil)))) (g_tp rfl (gs_cons 1 sc_11.nd (gs_cons 2 sc_11.nd (gs_cons 3 sc_11.nd (gs_cons 4 sc_11.nd (gs_nil))))))) (s_cons (s_setk 5 sc_11.nd (d_idx hr (d_call 10 T.c10 cx_px (hr.mono (Nat.le_succ _)) rfl (a_cons (d_v 0) (a_cons (d_int) (a_nil)))) (d_int))) (s_cons (s_setk 6 sc_11.nd (d_call 0 T.c0 cx_px (hr.mono (Nat.le_succ _)) rfl (a_cons (d_v 1) (a_nil)))) (s_cons (s_if (w_pt (w_or (t_nt (t_tru (d_call 4 T.c4 cx_px (hr.mono (Nat.le_succ _)) rfl (a_cons (d_v 6) (a_nil))))) (w_or1 (t_cmp .ne hr (d_v 6) (d_v 2))))) (s_one (s_ret (d_bl))) (s_nil)) (s_one (s_ret (d_and (d_call 6 T.c6 cx_px (hr.mono (Nat.le_succ _)) rfl (a_cons (d_call 1 T.c1 cx_px (hr.mono (Nat.le_succ _)) rfl (a_cons (d_v 1) (a_nil))) (a_cons (d_v 3) (a_nil)))) (d_and (d_call 6 T.c6 cx_px (hr.mono (Nat.le_succ _)) rfl (a_cons (d_call 2 T.c2 cx_px (hr.mono (Nat.le_succ _)) rfl (a_cons (d_v 1) (a_nil))) (a_cons (d_v 4) (a_nil)))) (d_one (d_cmp .eq hr (d_v 1) (d_v 5))))))))))
end
/-! ### all of it -/
def sp (n : Nat) : List Nat → S → Dv.Env → Dv.Env → Bool
  | _, _, _, _ => false
def phi : Nat → Nat → Sem'
  | 0 => fun _ _ => none
  | n + 1 => fun
    | 10 => evX [false, false] 13 (builtX ⟨sg, phi n, [], 0, sp n⟩)
    | f => evF ⟨sg, phi n, [], 0, sp n⟩ (fn f)
abbrev cfg (n : Nat) : Cfg := ⟨sg, phi n, [], 0, sp n⟩
def psi : Nat → Nat → Semx
  | 0 => fun _ _ => none
  | n + 1 => fun
    | 10 => fun _ => none
    | f => xF (cfg n) (psi n) (fn f)
def PhiS (c0 : Ct0) (n : Nat) : Nat → Sp
  | f => spX c0 (sg f) (phi n f) (psi n f)
abbrev Phi (c0 : Ct0) (n : Nat) : Pm := ⟨PhiS c0 n, c0.c, E0⟩
theorem sees (c0 : Ct0) (n : Nat) : Sees c0 (cfg n) (Phi c0 n) := by
  refine ⟨rfl, fun f => ?_, fun ws u Γ0 Γ h Ex => ?_⟩
  · match f with
    | 0 => exact SpLe.inl
    | 1 => exact SpLe.inl
    | 2 => exact SpLe.inl
    | 3 => exact SpLe.inl
    | 4 => exact SpLe.inl
    | 5 => exact SpLe.inl
    | 6 => exact SpLe.inl
    | 7 => exact SpLe.inl
    | 8 => exact SpLe.inl
    | 9 => exact SpLe.inl
    | 10 => exact SpLe.inl
    | 11 => exact SpLe.inl
    | n + 12 => exact SpLe.inl
  · cases h
theorem xok (c0 : Ct0) (n : Nat) : XOk c0 (cfg n) (psi n) (Phi c0 n) := fun f vs H Q E X h => by
  match f with
  | 0 => exact .inr ⟨X, h⟩
  | 1 => exact .inr ⟨X, h⟩
  | 2 => exact .inr ⟨X, h⟩
  | 3 => exact .inr ⟨X, h⟩
  | 4 => exact .inr ⟨X, h⟩
  | 5 => exact .inr ⟨X, h⟩
  | 6 => exact .inr ⟨X, h⟩
  | 7 => exact .inr ⟨X, h⟩
  | 8 => exact .inr ⟨X, h⟩
  | 9 => exact .inr ⟨X, h⟩
  | 10 => exact .inr ⟨X, h⟩
  | 11 => exact .inr ⟨X, h⟩
  | n + 12 => exact .inr ⟨X, h⟩
end
end Lw
namespace Lw
open PySem PySem.Spec L2 Dv Dv.Q
theorem forL_inv {bd : D → Dv.Env → Option Dv.Env} {body : Dv.Env → Option Out} (I : Nat → Dv.Env → Prop) : ∀ (ds : List D) (k : Nat) (Γ : Dv.Env), I k Γ → (∀ i x Γ, ds[i]? = some x → I (k + i) Γ → ∃ Γ1 Γ2, bd x Γ = some Γ1 ∧ body Γ1 = some (.nx Γ2) ∧ I (k + i + 1) Γ2) → ∃ Γ', forL bd body ds Γ = some (.nx Γ') ∧ I (k + ds.length) Γ'
  | [], k, Γ, h, _ => ⟨Γ, by simp, by simpa using h⟩
  | x :: xs, k, Γ, h, step => by
    obtain ⟨Γ1, Γ2, h1, h2, h3⟩ := step 0 x Γ rfl (by simpa using h)
    obtain ⟨Γ', e, h4⟩ := forL_inv I xs (k + 1) Γ2 (by simpa using h3) fun i y Γ hy hi => by
      obtain ⟨A, B, q1, q2, q3⟩ := step (i + 1) y Γ (by simpa using hy) (by rw [show k + (i + 1) = k + 1 + i by omega]; exact hi)
      exact ⟨A, B, q1, q2, by rw [show k + 1 + i + 1 = k + (i + 1) + 1 by omega]; exact q3⟩
    refine ⟨Γ', ?_, by rw [List.length_cons, show k + (xs.length + 1) = k + 1 + xs.length by omega]; exact h4⟩
    simp [h1, h2, e]
theorem range_at {n i : Nat} {x : D} (h : (rangeD 0 (n : Int))[i]? = some x) : i < n ∧ x = .int (i : Int) := by
  unfold rangeD at h
  rw [List.getElem?_map] at h
  have hi : i < n := by
    by_cases c : i < n
    · exact c
    · rw [List.getElem?_eq_none (by simp; omega)] at h
      cases h
  rw [List.getElem?_range (by simpa using hi)] at h
  cases h
  exact ⟨hi, by simp⟩
theorem range_len (n : Nat) : (rangeD 0 (n : Int)).length = n := by simp [rangeD]
theorem range_at' {n : Nat} {j : Int} (e : j = n) {i : Nat} {x : D} (h : (rangeD 0 j)[i]? = some x) : i < n ∧ x = .int (i : Int) := by subst e; exact range_at h
theorem range_len' {n : Nat} {j : Int} (e : j = n) : (rangeD 0 j).length = n := by subst e; exact range_len n
theorem sz_eq : sizeLine = 16777216 := rfl
theorem sm_of {n : Nat} (h : n ≤ sizeLine) : smI (n : Int) = true := by
  rw [sz_eq] at h
  exact smI_ok (by omega) (by omega)
theorem cutL_map {α β : Type} (f : α → β) (xs : List α) (lo hi : Option Int) : cutL (xs.map f) lo hi = (cutL xs lo hi).map f := by
  unfold cutL
  rw [List.length_map, List.map_take, List.map_drop]
theorem map_at {α β : Type} {f : α → β} {xs : List α} {k : Nat} {x : α} (h : xs[k]? = some x) : atI (xs.map f) (k : Int) = some (f x) := by
  rw [Q.atI_of, List.getElem?_map, h]
  rfl
theorem ixN_of {n k : Nat} (h : k < n) : ixN n (k : Int) = some k := by
  unfold ixN
  rw [if_pos (Int.natCast_nonneg k), if_pos (by omega)]
  rfl
theorem cut_take {α : Type} (xs : List α) (a : Nat) (h : a ≤ xs.length) : cutL xs none (some (a : Int)) = xs.take a := by
  unfold cutL
  rw [HT.sIx_nat, HT.sIx_none, Nat.min_eq_left h]
  simp
theorem cut_drop {α : Type} (xs : List α) (a : Nat) (h : a ≤ xs.length) : cutL xs (some (a : Int)) none = xs.drop a := by
  unfold cutL
  rw [HT.sIx_nat, HT.sIx_none, Nat.min_eq_left h]
  rw [List.take_of_length_le (by simp)]
/-! ### draws -/
def mixI (c t : Int) : Int :=
  let u := (c % 2147483647 + t * t * 7919 + 104729) * 48271 % 2147483647
  (u * u + 69621 * t) % 2147483629
theorem mix_ok (n : Nat) (c : Int) (t : Nat) (ht : t ≤ 2000) : phi (n + 1) 5 [.int c, .int (t : Int)] = some (.int (mixI c t), false, []) := by
  have m1 : mulI (t : Int) t = true := mulI_l (by omega) (by omega)
  let u : Int := (c % 2147483647 + (t : Int) * t * 7919 + 104729) * 48271 % 2147483647
  have m2 : mulI u u = true := mulI_mod (by decide) (by decide)
  have m3 : mulI 69621 (t : Int) = true := mulI_l (by decide) (by decide)
  show evF (cfg n) (fn 5) _ = _
  simp -implicitDefEqProofs [u] at m2
  simp -implicitDefEqProofs [evF, fn, b_5, m1, m2, m3, mixI]
theorem cell_ok (n : Nat) (ns : List Int) (k : Nat) : ∃ c, phi (n + 1) 3 [.scr ns, .int (k : Int)] = some (.int c, false, []) := by
  by_cases h : k < ns.length
  · refine ⟨ns[k], ?_⟩
    have a : atI ns (k : Int) = some ns[k] := by rw [Q.atI_of, List.getElem?_eq_getElem h]
    show evF (cfg n) (fn 3) _ = _
    simp -implicitDefEqProofs [evF, fn, b_3, h, a]
  · refine ⟨0, ?_⟩
    show evF (cfg n) (fn 3) _ = _
    simp -implicitDefEqProofs [evF, fn, b_3, h]
theorem draws_ok (n : Nat) (ns : List Int) (t m : Nat) (ht : t ≤ 1000) (hm : m ≤ 1000) : ∃ xs : List Int, phi (n + 2) 9 [.scr ns, .int (t : Int), .int (m : Int)] = some (.lst (xs.map .int), true, []) ∧ xs.length = m := by
  obtain ⟨z0, zs, hz⟩ : ∃ z0 zs, cutL ns none (some 63) ++ [(t : Int)] = z0 :: zs := by
    cases h : cutL ns none (some 63) with
    | nil => exact ⟨_, _, rfl⟩
    | cons a l => exact ⟨_, _, rfl⟩
  have hlen : (z0 :: zs).length ≤ 64 := by
    rw [← hz]
    have : (cutL ns none (some 63)).length ≤ 63 := by
      unfold cutL
      rw [List.length_take]
      have : HT.sIx ns.length ns.length (some 63) ≤ 63 := by
        have h := HT.sIx_nat ns.length ns.length 63
        rw [show (63 : Int) = ((63 : Nat) : Int) from rfl, h]
        exact Nat.min_le_left _ _
      omega
    simp
    omega
  have hcell : List.map D.int (cutL ns none (some 63)) ++ [D.int (t : Int)] = (z0 :: zs).map D.int := by rw [← hz]; simp
  have hl2 : (cutL ns none (some 63)).length + 1 = (z0 :: zs).length := by rw [← hz]; simp
  have sz : 4000 ≤ sizeLine := by decide
  let C : D := .nw (.lst ((z0 :: zs).map .int))
  by_cases c : z0 / 50000 % 2 = 1
  · -- the cells' own figures
    have cl : ∀ ys : List Int, compL (turn { cfg (n + 1) with lk := [] } [6] [6] .nopart ce_9_0) (ys.map .int) [some (.scr ns, false), some (.int t, false), some (.int m, false), some (C, false), some (.lst [], true), none, none, none, none, none] =
        some ((ys.map (· / 100000)).map .int, [some (.scr ns, false), some (.int t, false), some (.int m, false), some (C, false), some (.lst [], true), none, none, none, none, none]) := by
      intro ys
      induction ys with
      | nil => rfl
      | cons y ys ih =>
        simp -implicitDefEqProofs [turn, ce_9_0] at ih ⊢
        rw [ih]
    have cle := cl (z0 :: zs)
    have e0 : ((t : Int) + (m : Int)) = ((t + m : Nat) : Int) := by omega
    obtain ⟨Γ', e, fs, left, x7, x8, rfl, _, fl⟩ := forL_inv (bd := bindT [] [7]) (body := evS { cfg (n + 1) with lk := [] } lb_9_0) (fun i Γ => ∃ (fs left : List Int) (x7 x8 : Option (D × Bool)), Γ = [some (.scr ns, false), some (.int t, false), some (.int m, false), some (C, false), some (.lst (fs.map .int), true), some (.lst (left.map .int), true), none, x7, x8, none] ∧ left.length = (z0 :: zs).length ∧ fs.length = i) (rangeD 0 ((t : Int) + (m : Int))) 0
        [some (.scr ns, false), some (.int t, false), some (.int m, false), some (C, false), some (.lst [], true), some (.lst (((z0 :: zs).map (· / 100000)).map .int), true), none, none, none, none] ⟨[], _, none, none, rfl, by simp, by simp⟩ fun i x Γ hx ⟨fs, left, x7, x8, hΓ, hl, hf⟩ => by
      obtain ⟨hi, rfl⟩ := range_at' e0 hx
      subst hΓ
      have lp : 0 < left.length := by rw [hl]; simp
      have hk : i % left.length < left.length := Nat.mod_lt _ lp
      obtain ⟨y, hy⟩ : ∃ y, left[i % left.length]? = some y := ⟨_, List.getElem?_eq_getElem hk⟩
      have em : (i : Int) % (left.length : Int) = ((i % left.length : Nat) : Int) := by simp
      have a1 : atI (left.map D.int) ((i : Int) % (left.length : Int)) = some (.int y) := by rw [em]; exact map_at hy
      have s1 : setD (.lst (left.map D.int)) (.int ((i : Int) % (left.length : Int))) (.int (y / 2147483587)) = some (.lst ((left.set (i % left.length) (y / 2147483587)).map D.int)) := by
        show ((ixN (left.map D.int).length _).map fun j => D.lst ((left.map D.int).set j _)) = _
        rw [em, List.length_map, ixN_of hk]
        simp
      have lpi : (0 : Int) < left.length := by omega
      have flt : fs.length < sizeLine := by omega
      refine ⟨[some (.scr ns, false), some (.int t, false), some (.int m, false), some (C, false), some (.lst (fs.map .int), true), some (.lst (left.map .int), true), none, some (.int i, false), x8, none], ?_⟩
      refine ⟨[some (.scr ns, false), some (.int t, false), some (.int m, false), some (C, false), some (.lst ((fs ++ [y % 2147483587]).map .int), true), some (.lst ((left.set (i % left.length) (y / 2147483587)).map .int), true), none, some (.int i, false), some (.int (i % left.length), false), none], by simp, ?_, _, _, _, _, rfl, by simpa using hl, by simp; omega⟩
      simp -implicitDefEqProofs [lb_9_0, lp, a1, s1, flt]
    rw [range_len' e0] at fl
    have dr : cutL fs (some (t : Int)) none = fs.drop t := cut_drop fs t (by omega)
    refine ⟨fs.drop t, ?_, by rw [List.length_drop]; omega⟩
    have s1 : smI ((t : Int) + (m : Int)) = true := by rw [e0]; exact sm_of (by omega)
    have k1 : (cutL ns none (some 63)).length + 1 ≤ sizeLine := by rw [hl2]; omega
    have k2 : zs.length + 1 ≤ sizeLine := by
      have : (z0 :: zs).length = zs.length + 1 := rfl
      omega
    have dr2 : cutL (fs.map D.int) (some (t : Int)) none = (fs.drop t).map D.int := by rw [cutL_map, dr]
    simp -implicitDefEqProofs [C] at cle e
    show evF (cfg (n + 1)) (fn 9) _ = _
    simp -implicitDefEqProofs [evF, fn, b_9, cutL_map, hcell, k1, c, s1]
    simp -implicitDefEqProofs [cle, k2, s1]
    simp -implicitDefEqProofs [e, dr2, dr, cutL_map]
  · -- all of them mixed
    obtain ⟨Γ', e, fs, x7, x9, rfl, fl⟩ := forL_inv (bd := bindT [] [7]) (body := evS { cfg (n + 1) with lk := [] } lb_9_1) (fun i Γ => ∃ (fs : List Int) (x7 x9 : Option (D × Bool)), Γ = [some (.scr ns, false), some (.int t, false), some (.int m, false), some (C, false), some (.lst (fs.map .int), true), none, none, x7, none, x9] ∧ fs.length = i) (rangeD 0 (m : Int)) 0
        [some (.scr ns, false), some (.int t, false), some (.int m, false), some (C, false), some (.lst [], true), none, none, none, none, none] ⟨[], none, none, rfl, by simp⟩ fun i x Γ hx ⟨fs, x7, x9, hΓ, hf⟩ => by
      obtain ⟨hi, rfl⟩ := range_at hx
      subst hΓ
      have lp : 0 < (z0 :: zs).length := by simp
      have hk : i % (z0 :: zs).length < (z0 :: zs).length := Nat.mod_lt _ lp
      obtain ⟨y, hy⟩ : ∃ y, (z0 :: zs)[i % (z0 :: zs).length]? = some y := ⟨_, List.getElem?_eq_getElem hk⟩
      have em : (i : Int) % ((zs.length : Int) + 1) = ((i % (z0 :: zs).length : Nat) : Int) := by simp
      have a1 : atI (D.int z0 :: zs.map D.int) ((i : Int) % ((zs.length : Int) + 1)) = some (.int y) := by rw [em]; exact map_at (f := D.int) (xs := z0 :: zs) hy
      have flt : fs.length < sizeLine := by omega
      have lp2 : (0 : Int) < (zs.length : Int) + 1 := by omega
      have mx := mix_ok n y (i + t) (by omega)
      rw [show ((i + t : Nat) : Int) = (i : Int) + t by omega] at mx
      have m4 : mulI (mixI y ((i : Int) + t)) (mixI y ((i : Int) + t)) = true := mulI_mod (by decide) (by decide)
      have m5 : mulI 7 (i : Int) = true := mulI_l (by decide) (by decide)
      refine ⟨[some (.scr ns, false), some (.int t, false), some (.int m, false), some (C, false), some (.lst (fs.map .int), true), none, none, some (.int i, false), none, x9], ?_⟩
      refine ⟨[some (.scr ns, false), some (.int t, false), some (.int m, false), some (C, false), some (.lst ((fs ++ [(mixI y ((i : Int) + t) * mixI y ((i : Int) + t) + 7 * i) % 2147483587]).map .int), true), none, none, some (.int i, false), none, some (.int (mixI y ((i : Int) + t)), false)], by simp, ?_, _, _, _, rfl, by simp; omega⟩
      simp -implicitDefEqProofs [lb_9_1, C, a1, flt, lp2, callD, sg_5, mx, m4, m5]
    rw [range_len] at fl
    refine ⟨fs, ?_, by omega⟩
    have s1 : smI (m : Int) = true := sm_of (by omega)
    have k1 : (cutL ns none (some 63)).length + 1 ≤ sizeLine := by rw [hl2]; omega
    simp -implicitDefEqProofs [C] at e
    show evF (cfg (n + 1)) (fn 9) _ = _
    simp -implicitDefEqProofs [evF, fn, b_9, cutL_map, hcell, k1, c, s1]
    simp -implicitDefEqProofs [e]
end Lw
namespace Lw
open PySem PySem.Spec L2 Dv Dv.Q
/-! ### rows: their parts counted, their texts, their heads -/
mutual
def cW : Rw → Nat
  | .tx _ => 1
  | .tp _ r => 1 + cWs r
def cWs : List Rw → Nat
  | [] => 0
  | p :: r => cW p + cWs r
end
mutual
def tW : Rw → List Str
  | .tx s => [s]
  | .tp _ r => tWs r
def tWs : List Rw → List Str
  | [] => []
  | p :: r => tW p ++ tWs r
end
def hW : Rw → Str
  | .tx _ => "#"
  | .tp n _ => n
mutual
def oW : Rw → Bool
  | .tx s => PyData.strOk s
  | .tp n r => PyData.strOk n && oWs r
def oWs : List Rw → Bool
  | [] => true
  | p :: r => oW p && oWs r
end
mutual
def eW : Rw → Nat
  | .tx _ => 0
  | .tp _ r => eWs r + 1
def eWs : List Rw → Nat
  | [] => 0
  | p :: r => max (eW p) (eWs r)
end
mutual
def pW : Rw → PyData
  | .tx s => .str s
  | .tp n r => .tuple [.str n, .list (pWs r)]
def pWs : List Rw → List PyData
  | [] => []
  | p :: r => pW p :: pWs r
end
mutual
theorem toP_W : ∀ p : Rw, (dW p).toP = some (pW p)
  | .tx s => rfl
  | .tp n r => by
    show ((((D.str n).toP).bind fun p => ((((toPs (dWs r)).map PyData.list)).bind fun p => (toPs []).map (p :: ·)).map (p :: ·)).map PyData.tuple) = _
    rw [toP_Ws r]
    rfl
theorem toP_Ws : ∀ r : List Rw, toPs (dWs r) = some (pWs r)
  | [] => rfl
  | p :: r => by
    show (((dW p).toP).bind fun p => (toPs (dWs r)).map (p :: ·)) = _
    rw [toP_W p, toP_Ws r]
    rfl
end
mutual
theorem lay_W : ∀ p : Rw, oW p = true → (pW p).canLay0 = true
  | .tx s, h => by simpa [pW, PyData.canLay0, oW] using h
  | .tp n r, h => by
    simp only [oW, Bool.and_eq_true] at h
    simp [pW, PyData.canLay0, PyData.canLayAll0, h.1, lay_Ws r h.2]
theorem lay_Ws : ∀ r : List Rw, oWs r = true → PyData.canLayAll0 (pWs r) = true
  | [], _ => by simp [pWs, PyData.canLayAll0]
  | p :: r, h => by
    simp [oWs] at h
    simp [pWs, PyData.canLayAll0, lay_W p h.1, lay_Ws r h.2]
end
mutual
theorem dep_W : ∀ p : Rw, (pW p).depth ≤ 2 * eW p + 1
  | .tx s => by simp [pW, PyData.depth, eW]
  | .tp n r => by
    have := dep_Ws r
    simp [pW, PyData.depth, PyData.depthAll, eW]
    omega
theorem dep_Ws : ∀ r : List Rw, PyData.depthAll (pWs r) ≤ 2 * eWs r + 1
  | [] => by simp [pWs, PyData.depthAll]
  | p :: r => by
    have h1 := dep_W p
    have h2 := dep_Ws r
    simp [pWs, PyData.depthAll, eWs]
    omega
end
mutual
theorem e_c : ∀ p : Rw, eW p ≤ cW p
  | .tx s => by simp [eW, cW]
  | .tp n r => by have := e_cs r; simp [eW, cW]; omega
theorem e_cs : ∀ r : List Rw, eWs r ≤ cWs r
  | [] => by simp [eWs, cWs]
  | p :: r => by have := e_c p; have := e_cs r; simp [eWs, cWs]; omega
end
mutual
theorem t_c : ∀ p : Rw, (tW p).length ≤ cW p
  | .tx s => by simp [tW, cW]
  | .tp n r => by have := t_cs r; simp [tW, cW]; omega
theorem t_cs : ∀ r : List Rw, (tWs r).length ≤ cWs r
  | [] => by simp [tWs, cWs]
  | p :: r => by have := t_c p; have := t_cs r; simp [tWs, cWs]; omega
end
theorem cW_pos : ∀ p : Rw, 1 ≤ cW p
  | .tx s => by simp [cW]
  | .tp n r => by simp [cW]
theorem l_c : ∀ r : List Rw, r.length ≤ cWs r
  | [] => by simp [cWs]
  | p :: r => by have := cW_pos p; have := l_c r; simp [cWs]; omega
theorem eq_same {x y : D} {p : PyData} (h1 : x.toP = some p) (h2 : y.toP = some p) (hx : x.fl = none) (hl : p.canLay0 = true) (hd : p.depth ≤ 200) : eqD x y = some true := by
  have e : eqP x y = some true := by
    unfold eqP
    rw [h1, h2]
    show (if (PyData.canLay0 p && PyData.canLay0 p && decide (p.depth ≤ 200)) = true then some (PyData.eqv p p) else none) = _
    rw [if_pos (by simp [hl, hd]), SeqAt.eqv_refl p hl]
  unfold eqD
  rw [hx]
  exact e
theorem row_eq (r : List Rw) (h : oWs r = true) (hd : eWs r ≤ 90) : eqD (.lst (dWs r)) (.lst (dWs r)) = some true := by
  have e : (D.lst (dWs r)).toP = some (.list (pWs r)) := by
    show (toPs (dWs r)).map PyData.list = _
    rw [toP_Ws]
    rfl
  have := dep_Ws r
  exact eq_same e e rfl (by simpa [PyData.canLay0] using lay_Ws r h) (by simp [PyData.depth]; omega)
theorem forL_step {bd : D → Dv.Env → Option Dv.Env} {body : Dv.Env → Option Out} {x : D} {ds : List D} {Γ Γ1 Γ2 : Dv.Env} {z : Option Out} (e1 : bd x Γ = some Γ1) (e2 : body Γ1 = some (.nx Γ2)) (e3 : forL bd body ds Γ2 = z) : forL bd body (x :: ds) Γ = z := by
  simp [forL_cons, e1, e2, e3]
theorem size_ok : ∀ (n : Nat) (r : List Rw) (d : D), d.un = .lst (dWs r) → eWs r < n → phi n 0 [d] = some (.int (cWs r), false, [])
  | 0, _, _, _, h => by omega
  | n + 1, r, d, h1, h => by
    have ih := size_ok n
    have loop : ∀ (r : List Rw) (k : Int) (x2 : Option (D × Bool)), eWs r < n + 1 → ∃ y2, forL (bindT [] [2]) (evS { cfg n with lk := [] } lb_0_0) (dWs r) [some (d, false), some (.int k, false), x2] = some (.nx [some (d, false), some (.int (k + (cWs r : Nat)), false), y2]) := by
      intro r
      induction r with
      | nil => intro k x2 _; exact ⟨x2, by simp [dWs, cWs]⟩
      | cons p r ih2 =>
        intro k x2 hd
        have hd' : eW p < n + 1 ∧ eWs r < n + 1 := by simp [eWs] at hd; omega
        obtain ⟨y2, e⟩ := ih2 (k + (cW p : Nat)) (some (dW p, false)) hd'.2
        refine ⟨y2, ?_⟩
        rw [show (k + (cWs (p :: r) : Nat) : Int) = k + (cW p : Nat) + (cWs r : Nat) by simp [cWs]; omega]
        refine forL_step (Γ1 := [some (d, false), some (.int k, false), some (dW p, false)]) rfl ?_ e
        cases p with
        | tx s => simp [dW, cW, lb_0_0]
        | tp s q =>
          have i2 := ih q (.lst (dWs q)) rfl (by simp [eW] at hd'; omega)
          have ea : k + 1 + (cWs q : Int) = k + (1 + (cWs q : Int)) := by omega
          simp [dW, cW, lb_0_0, callD, sg, i2, ea]
    obtain ⟨y2, e⟩ := loop r 0 none h
    show evF (cfg n) (fn 0) _ = _
    simp [evF, fn, b_0, h1]
    simp at e
    simp [e]
theorem texts_ok : ∀ (n : Nat) (r : List Rw) (d : D), d.un = .lst (dWs r) → eWs r < n → cWs r ≤ sizeLine → phi n 1 [d] = some (.lst ((tWs r).map .str), true, [])
  | 0, _, _, _, h, _ => by omega
  | n + 1, r, d, h1, h, hc => by
    have ih := texts_ok n
    have loop : ∀ (r : List Rw) (acc : List Str) (x2 : Option (D × Bool)), eWs r < n + 1 → acc.length + cWs r ≤ sizeLine → ∃ y2, forL (bindT [] [2]) (evS { cfg n with lk := [] } lb_1_0) (dWs r) [some (d, false), some (.lst (acc.map .str), true), x2] = some (.nx [some (d, false), some (.lst ((acc ++ tWs r).map .str), true), y2]) := by
      intro r
      induction r with
      | nil => intro k x2 _ _; exact ⟨x2, by simp [dWs, tWs]⟩
      | cons p r ih2 =>
        intro acc x2 hd hs
        have hd' : eW p < n + 1 ∧ eWs r < n + 1 := by simp [eWs] at hd; omega
        have tc := t_c p
        have pp := cW_pos p
        rw [cWs] at hs
        obtain ⟨y2, e⟩ := ih2 (acc ++ tW p) (some (dW p, false)) hd'.2 (by simp; omega)
        refine ⟨y2, ?_⟩
        rw [show acc ++ tWs (p :: r) = acc ++ tW p ++ tWs r by simp [tWs]]
        refine forL_step (Γ1 := [some (d, false), some (.lst (acc.map .str), true), some (dW p, false)]) rfl ?_ e
        cases p with
        | tx s =>
          have la : acc.length < sizeLine := by simp [cW] at hs; omega
          simp [dW, tW, lb_1_0, la]
        | tp s q =>
          have i2 := ih q (.nw (.lst (dWs q))) rfl (by simp [eW] at hd'; omega) (by simp [cW] at hs; omega)
          have la : acc.length + (tWs q).length ≤ sizeLine := by have := t_cs q; simp [cW] at hs; omega
          simp [dW, tW, lb_1_0, callD, sg, i2, la]
    obtain ⟨y2, e⟩ := loop r [] none h (by simpa using hc)
    show evF (cfg n) (fn 1) _ = _
    simp [evF, fn, b_1, h1]
    simp at e
    simp [e]
theorem word_ok (n : Nat) (r : List Rw) (d : D) (h1 : d.un = .lst (dWs r)) (hc : cWs r ≤ sizeLine) : phi (n + 1) 2 [d] = some (.lst ((r.map hW).map .str), true, []) := by
  have loop : ∀ (r : List Rw) (acc : List Str) (x2 : Option (D × Bool)), acc.length + cWs r ≤ sizeLine → ∃ y2, forL (bindT [] [2]) (evS { cfg n with lk := [] } lb_2_0) (dWs r) [some (d, false), some (.lst (acc.map .str), true), x2] = some (.nx [some (d, false), some (.lst ((acc ++ r.map hW).map .str), true), y2]) := by
    intro r
    induction r with
    | nil => intro k x2 _; exact ⟨x2, by simp [dWs]⟩
    | cons p r ih2 =>
      intro acc x2 hs
      have pp := cW_pos p
      rw [cWs] at hs
      obtain ⟨y2, e⟩ := ih2 (acc ++ [hW p]) (some (dW p, false)) (by simp; omega)
      refine ⟨y2, ?_⟩
      rw [show acc ++ (p :: r).map hW = acc ++ [hW p] ++ r.map hW by simp]
      refine forL_step (Γ1 := [some (d, false), some (.lst (acc.map .str), true), some (dW p, false)]) rfl ?_ e
      have la : acc.length < sizeLine := by omega
      cases p with
      | tx s => simp [dW, hW, lb_2_0, la]
      | tp s q => simp [dW, hW, lb_2_0, la]
  obtain ⟨y2, e⟩ := loop r [] none (by simpa using hc)
  show evF (cfg n) (fn 2) _ = _
  simp [evF, fn, b_2, h1]
  simp at e
  simp [e]
theorem textsq_ok (n : Nat) (ss : List Str) (x y : D) (hx : x.un = .lst (ss.map .str)) (hy : y.un = .lst (ss.map .str)) (hl : ss.length ≤ sizeLine) : phi (n + 1) 6 [x, y] = some (.bl true, false, []) := by
  obtain ⟨Γ', e, x2, rfl⟩ := forL_inv (bd := bindT [] [2]) (body := evS { cfg n with lk := [] } lb_6_0) (fun i Γ => ∃ x2, Γ = [some (x, false), some (y, false), x2]) (rangeD 0 (ss.length : Int)) 0 [some (x, false), some (y, false), none] ⟨none, rfl⟩ fun i z Γ hz ⟨x2, hΓ⟩ => by
    obtain ⟨hi, rfl⟩ := range_at hz
    subst hΓ
    obtain ⟨s, hs⟩ : ∃ s, ss[i]? = some s := ⟨_, List.getElem?_eq_getElem hi⟩
    have a1 : atI (ss.map D.str) (i : Int) = some (.str s) := map_at hs
    refine ⟨[some (x, false), some (y, false), some (.int i, false)], [some (x, false), some (y, false), some (.int i, false)], rfl, ?_, _, rfl⟩
    simp -implicitDefEqProofs [lb_6_0, hx, hy, a1]
  have s1 : smI (ss.length : Int) = true := sm_of hl
  show evF (cfg n) (fn 6) _ = _
  simp -implicitDefEqProofs [evF, fn, b_6, hx, hy, s1]
  simp -implicitDefEqProofs at e
  simp -implicitDefEqProofs [e]
end Lw
namespace Lw
open PySem PySem.Spec L2 Dv Dv.Q
abbrev one (c : Nat) : Str := ⟨#[c]⟩
abbrev abc : Str := "abcdefghijklmnopqrstuvwxyz"
abbrev ab1 : Str := " !\"#$&'()*+,-./0123456789:;<=>?@ABCDEFGHIJKLMNOPQRSTUVWXYZ[\\]^_`"
abbrev ab2 : Str := "abcdefghijklmnopqrstuvwxyz{|}~"
theorem idx_str' (s : Str) (i : Int) : idxD (.str s) (.int i) = if s.length ≤ sizeLine then (atI s.cps.toList i).map fun c => .str ⟨#[c]⟩ else none := rfl
theorem cat_len (a b : Str) : (a ++ b).length = a.length + b.length := by show (a.cps ++ b.cps).size = _; simp; rfl
def asc (s : Str) : Prop := ∀ c ∈ s.cps.toList, c < 128
theorem asc_ok {s : Str} (h : asc s) : PyData.strOk s = true := by
  unfold PyData.strOk
  rw [Array.all_eq_true']
  intro x hx
  have := h x (by simpa using hx)
  exact decide_eq_true (by omega)
theorem asc_cat {a b : Str} (h1 : asc a) (h2 : asc b) : asc (a ++ b) := by
  intro c hc
  have e : (a ++ b).cps.toList = a.cps.toList ++ b.cps.toList := by show (a.cps ++ b.cps).toList = _; simp
  rw [e] at hc
  rcases List.mem_append.mp hc with h | h
  · exact h1 c h
  · exact h2 c h
theorem asc_one {c : Nat} (h : c < 128) : asc (one c) := by
  intro x hx
  simp at hx
  omega
theorem str_at (s : Str) (i : Int) (m : Nat) (hm : s.cps.toList.length = m) (h0 : 0 < m) (hs : m ≤ sizeLine) (ha : asc s) : ∃ c, idxD (.str s) (.int (i % (m : Int))) = some (.str (one c)) ∧ c < 128 := by
  have h1 := Int.emod_nonneg i (show (m : Int) ≠ 0 by omega)
  have h2 := Int.emod_lt_of_pos i (show (0 : Int) < m by omega)
  obtain ⟨j, hj⟩ : ∃ j : Nat, i % (m : Int) = (j : Int) := ⟨(i % (m : Int)).toNat, by omega⟩
  have hl : s.length = s.cps.toList.length := by show s.cps.size = _; simp
  have hjl : j < s.cps.toList.length := by omega
  refine ⟨s.cps.toList[j], ?_, ha _ (List.getElem_mem hjl)⟩
  rw [idx_str', if_pos (by omega), hj, Q.atI_of, List.getElem?_eq_getElem hjl]
  rfl
theorem abc_l : abc.cps.toList.length = 26 := by decide +kernel
theorem abc_a : asc abc := by unfold asc; decide +kernel
theorem ab_l : (ab1 ++ ab2).cps.toList.length = 94 := by decide +kernel
theorem ab_s : (ab1 ++ ab2).length = 94 := by decide +kernel
theorem ab_s1 : ab1.length + ab2.length ≤ sizeLine := by decide +kernel
theorem ab_a : asc (ab1 ++ ab2) := by unfold asc; decide +kernel
theorem nil_l : (("" : String) : Str).length = 0 := by decide +kernel
theorem nil_a : asc (("" : String) : Str) := by unfold asc; decide +kernel
theorem one_l (c : Nat) : (one c).length = 1 := rfl
theorem bi1 (b : Bool) : biD .int1 [.bl b] = some (.int (if b then 1 else 0), false) := by cases b <;> rfl
theorem name_ok (n : Nat) (k : Int) : ∃ s, phi (n + 1) 8 [.int k] = some (.str s, false, []) ∧ asc s := by
  obtain ⟨m, hm, hm2⟩ : ∃ m : Nat, 1 + k / 31 % 3 + 9 * (if k / 93 % 7 = 3 then (1 : Int) else 0) = (m : Int) ∧ m ≤ 12 := by
    have h0 := Int.emod_nonneg (k / 31) (by decide : (3 : Int) ≠ 0)
    have h1 := Int.emod_lt_of_pos (k / 31) (by decide : (0 : Int) < 3)
    refine ⟨(1 + k / 31 % 3 + 9 * (if k / 93 % 7 = 3 then (1 : Int) else 0)).toNat, ?_, ?_⟩
    · split <;> omega
    · split <;> omega
  have sz : 4000 ≤ sizeLine := by decide
  obtain ⟨Γ', e, s, x3, rfl, hs1, hs2⟩ := forL_inv (bd := bindT [] [3]) (body := evS { cfg n with lk := [] } lb_8_0) (fun i Γ => ∃ (s : Str) (x3 : Option (D × Bool)), Γ = [some (.int k, false), some (.str abc, false), some (.str s, false), x3] ∧ s.length = i ∧ asc s) (rangeD 0 (m : Int)) 0
      [some (.int k, false), some (.str abc, false), some (.str "", false), none] ⟨"", none, rfl, nil_l, nil_a⟩ fun i x Γ hx ⟨s, x3, hΓ, hs1, hs2⟩ => by
    obtain ⟨hi, rfl⟩ := range_at hx
    subst hΓ
    obtain ⟨c, a1, ac⟩ := str_at abc (k / 7 + (i : Int) * (1 + k % 5)) 26 abc_l (by decide) (by decide) abc_a
    have m1 : mulI (i : Int) (1 + k % 5) = true := mulI_l (by omega) (by omega)
    have l1 : s.length + (one c).length ≤ sizeLine := by rw [hs1, one_l]; omega
    refine ⟨[some (.int k, false), some (.str abc, false), some (.str s, false), some (.int i, false)], [some (.int k, false), some (.str abc, false), some (.str (s ++ one c), false), some (.int i, false)], rfl, ?_, _, _, rfl, by rw [cat_len, hs1, one_l]; try omega, asc_cat hs2 (asc_one ac)⟩
    simp -implicitDefEqProofs at a1
    simp -implicitDefEqProofs [lb_8_0, m1, a1, l1]
  refine ⟨s, ?_, hs2⟩
  have s1 : smI (m : Int) = true := sm_of (by omega)
  show evF (cfg n) (fn 8) _ = _
  simp -implicitDefEqProofs [evF, fn, b_8]
  simp -implicitDefEqProofs at e
  by_cases hc : k / 93 % 7 = 3
  · rw [if_pos hc] at hm
    simp -implicitDefEqProofs [hc, bi1, hm, s1] at hm ⊢
    simp -implicitDefEqProofs [hm, s1, e]
  · rw [if_neg hc] at hm
    simp -implicitDefEqProofs [hc, bi1, hm, s1] at hm ⊢
    simp -implicitDefEqProofs [hm, s1, e]
theorem text_ok (n : Nat) (k : Int) (m : Nat) (hm2 : m ≤ 100) : ∃ s, phi (n + 1) 7 [.int k, .int (m : Int)] = some (.str s, false, []) ∧ asc s := by
  have sz : 4000 ≤ sizeLine := by decide
  obtain ⟨Γ', e, s, x4, x5, rfl, hs1, hs2⟩ := forL_inv (bd := bindT [] [4]) (body := evS { cfg n with lk := [] } lb_7_0) (fun i Γ => ∃ (s : Str) (x4 x5 : Option (D × Bool)), Γ = [some (.int k, false), some (.int m, false), some (.str (ab1 ++ ab2), false), some (.str s, false), x4, x5] ∧ s.length = i ∧ asc s) (rangeD 0 (m : Int)) 0
      [some (.int k, false), some (.int m, false), some (.str (ab1 ++ ab2), false), some (.str "", false), none, none] ⟨"", none, none, rfl, nil_l, nil_a⟩ fun i x Γ hx ⟨s, x4, x5, hΓ, hs1, hs2⟩ => by
    obtain ⟨hi, rfl⟩ := range_at hx
    subst hΓ
    obtain ⟨c, a1, ac⟩ := str_at (ab1 ++ ab2) (k / 7 + (i : Int) * (1 + k % 13) + (i : Int) * i) 94 ab_l (by decide) (by decide) ab_a
    have m1 : mulI (i : Int) (1 + k % 13) = true := mulI_l (by omega) (by omega)
    have m2 : mulI (i : Int) (i : Int) = true := mulI_l (by omega) (by omega)
    have l1 : s.length + (one c).length ≤ sizeLine := by rw [hs1, one_l]; omega
    have l2 : (94 : Nat) ≤ sizeLine := by omega
    refine ⟨[some (.int k, false), some (.int m, false), some (.str (ab1 ++ ab2), false), some (.str s, false), some (.int i, false), x5], [some (.int k, false), some (.int m, false), some (.str (ab1 ++ ab2), false), some (.str (s ++ one c), false), some (.int i, false), some (.int (k / 7 + (i : Int) * (1 + k % 13) + (i : Int) * i), false)], rfl, ?_, _, _, _, rfl, by rw [cat_len, hs1, one_l]; try omega, asc_cat hs2 (asc_one ac)⟩
    simp -implicitDefEqProofs at a1
    simp -implicitDefEqProofs [lb_7_0, m1, m2, ab_s, l2, a1, l1]
  refine ⟨s, ?_, hs2⟩
  have s1 : smI (m : Int) = true := sm_of (by omega)
  have k1 := ab_s1
  show evF (cfg n) (fn 7) _ = _
  simp -implicitDefEqProofs [evF, fn, b_7, k1, s1]
  simp -implicitDefEqProofs at e
  simp -implicitDefEqProofs [e]
end Lw
namespace Lw
open PySem PySem.Spec L2 Dv Dv.Q
/-! ### the pile's measures -/
def cS : Stk → Nat
  | [] => 0
  | [(_, r)] => cWs r
  | (_, r) :: s :: st => cWs r + 1 + cS (s :: st)
def tS : Stk → List Str
  | [] => []
  | [(_, r)] => tWs r
  | (_, r) :: s :: st => tS (s :: st) ++ tWs r
def hS : Stk → List Str
  | [] => []
  | [(_, r)] => r.map hW
  | [(n, _), (_, q)] => q.map hW ++ [n]
  | _ :: s :: s2 :: st => hS (s :: s2 :: st)
def oS : Stk → Bool
  | [] => true
  | (n, r) :: st => PyData.strOk n && oWs r && oS st
theorem cWs_app : ∀ a b : List Rw, cWs (a ++ b) = cWs a + cWs b
  | [], b => by simp [cWs]
  | p :: a, b => by simp [cWs, cWs_app a b]; omega
theorem tWs_app : ∀ a b : List Rw, tWs (a ++ b) = tWs a ++ tWs b
  | [], b => by simp [tWs]
  | p :: a, b => by simp [tWs, tWs_app a b]
theorem oWs_app : ∀ a b : List Rw, oWs (a ++ b) = (oWs a && oWs b)
  | [], b => by simp [oWs]
  | p :: a, b => by simp [oWs, oWs_app a b, Bool.and_assoc]
theorem cS_close (n : Str) (r : List Rw) (m : Str) (q : List Rw) (st : Stk) : cS ((m, q ++ [.tp n r]) :: st) = cS ((n, r) :: (m, q) :: st) := by
  cases st with
  | nil => simp [cS, cWs_app, cWs, cW]; omega
  | cons s st => simp [cS, cWs_app, cWs, cW]; omega
theorem tS_close (n : Str) (r : List Rw) (m : Str) (q : List Rw) (st : Stk) : tS ((m, q ++ [.tp n r]) :: st) = tS ((n, r) :: (m, q) :: st) := by
  cases st with
  | nil => simp [tS, tWs_app, tWs, tW]
  | cons s st => simp [tS, tWs_app, tWs, tW]
theorem hS_close (n : Str) (r : List Rw) (m : Str) (q : List Rw) (st : Stk) : hS ((m, q ++ [.tp n r]) :: st) = hS ((n, r) :: (m, q) :: st) := by
  match st with
  | [] => simp [hS, hW]
  | [(a, b)] => simp [hS]
  | s :: s2 :: st => simp [hS]
theorem oS_close (n : Str) (r : List Rw) (m : Str) (q : List Rw) (st : Stk) : oS ((m, q ++ [.tp n r]) :: st) = oS ((n, r) :: (m, q) :: st) := by
  simp only [oS, oWs_app, oWs, oW, Bool.and_true]
  cases PyData.strOk n <;> cases oWs r <;> cases PyData.strOk m <;> cases oWs q <;> simp
theorem row_all : ∀ (k : Nat) (st : Stk), st.length = k + 1 → cWs (rowS st) = cS st ∧ tWs (rowS st) = tS st ∧ (rowS st).map hW = hS st ∧ (oS st = true → oWs (rowS st) = true)
  | 0, [(n, r)], _ => by
    rw [rowS]
    refine ⟨rfl, rfl, rfl, fun h => ?_⟩
    simp [oS] at h
    exact h.2
  | k + 1, (n, r) :: (m, q) :: st, h => by
    have i := row_all k ((m, q ++ [.tp n r]) :: st) (by simp at h ⊢; omega)
    rw [rowS_close, ← cS_close, ← tS_close, ← hS_close, ← oS_close]
    exact i
theorem cS_l : ∀ st : Stk, st.length ≤ cS st + 1
  | [] => by simp
  | [(n, r)] => by simp
  | (n, r) :: s :: st => by
    have := cS_l (s :: st)
    simp [cS] at this ⊢
    omega
theorem cS_t (n : Str) (r : List Rw) (st : Stk) : r.length ≤ cS ((n, r) :: st) := by
  have := l_c r
  cases st with
  | nil => simpa [cS] using this
  | cons s st => simp [cS]; omega
theorem small_ok {st : Stk} (h : cS st ≤ 100) : smallB st = true := by
  have h1 := cS_l st
  unfold smallB
  cases st with
  | nil => rfl
  | cons s st =>
    obtain ⟨n, r⟩ := s
    have := cS_t n r st
    have h1' : st.length + 1 ≤ 1000 := by simp at h1; omega
    have h2' : r.length ≤ 1000 := by omega
    show (decide (st.length + 1 ≤ 1000) && decide (r.length ≤ 1000)) = true
    rw [decide_eq_true h1', decide_eq_true h2']
    rfl
/-! ### a step -/
def eB (ns : List Int) (C : D) (lean : Int) (hs ts : List Str) (m : Int) (x9 x10 x11 x12 : Option (D × Bool)) : Dv.Env :=
  [some (.scr ns, false), some (.int 1, false), none, none, some (.lst (hs.map .str), true), some (.lst (ts.map .str), true), some (.int m, false), some (.int lean, false), some (C, false), x9, x10, x11, x12]
section
variable {n : Nat} {ns : List Int} {C : D} {lean : Int} {hs ts : List Str} {m : Int} {x9 x10 x11 x12 : Option (D × Bool)}
theorem kind_r (hl : lean = 0 ∨ lean = 1 ∨ lean = 2) (x : Int) : ∃ k : Int, runB (cfg n) kKind (eB ns C lean hs ts m (some (.int x, false)) x10 x11 x12) = some (eB ns C lean hs ts m (some (.int x, false)) (some (.int k, false)) x11 x12) := by
  rcases hl with rfl | rfl | rfl
  · exact ⟨x % 3, by simp -implicitDefEqProofs [runB, chkB, kKind, eB, Env.at]⟩
  · exact ⟨x % 8, by simp -implicitDefEqProofs [runB, chkB, kKind, eB, Env.at]⟩
  · exact ⟨x % 3, by simp -implicitDefEqProofs [runB, chkB, kKind, eB, Env.at]⟩
theorem text_r (x : Int) : ∃ s : Str, runB (cfg (n + 1)) kText (eB ns C lean hs ts m (some (.int x, false)) x10 x11 x12) = some (eB ns C lean hs ts m (some (.int x, false)) x10 (some (.str s, false)) x12) ∧ asc s := by
  by_cases c : x / 7 % 5 = 0
  · obtain ⟨j, hj, hj2⟩ : ∃ j : Nat, x / 11 % 61 = (j : Int) ∧ j ≤ 100 := ⟨(x / 11 % 61).toNat, by omega, by omega⟩
    obtain ⟨s, e, a⟩ := text_ok n (x / 3) j hj2
    exact ⟨s, by simp -implicitDefEqProofs [runB, chkB, kText, eB, Env.at, bi1, c, hj, callD, sg, e], a⟩
  · obtain ⟨j, hj, hj2⟩ : ∃ j : Nat, x / 11 % 20 = (j : Int) ∧ j ≤ 100 := ⟨(x / 11 % 20).toNat, by omega, by omega⟩
    obtain ⟨s, e, a⟩ := text_ok n (x / 3) j hj2
    exact ⟨s, by simp -implicitDefEqProofs [runB, chkB, kText, eB, Env.at, bi1, c, hj, callD, sg, e], a⟩
theorem name_r (x : Int) : ∃ s : Str, runB (cfg (n + 1)) kName (eB ns C lean hs ts m (some (.int x, false)) x10 x11 x12) = some (eB ns C lean hs ts m (some (.int x, false)) x10 x11 (some (.str s, false))) ∧ asc s := by
  obtain ⟨s, e, a⟩ := name_ok n (x / 3)
  exact ⟨s, by simp -implicitDefEqProofs [runB, chkB, kName, eB, Env.at, callD, sg, e], a⟩
theorem many_r : runB (cfg n) kMany (eB ns C lean hs ts m x9 x10 x11 x12) = some (eB ns C lean hs ts (m + 1) x9 x10 x11 x12) := by
  simp -implicitDefEqProofs [runB, chkB, kMany, eB, Env.at]
theorem head_r (s : Str) (hl : hs.length < sizeLine) : runB (cfg n) kHead (eB ns C lean hs ts m x9 x10 x11 (some (.str s, false))) = some (eB ns C lean (hs ++ [s]) ts m x9 x10 x11 (some (.str s, false))) := by
  simp -implicitDefEqProofs [runB, chkB, kHead, eB, Env.at, hl]
theorem hash_r (hl : hs.length < sizeLine) : runB (cfg n) kHash (eB ns C lean hs ts m x9 x10 x11 x12) = some (eB ns C lean (hs ++ [("#" : Str)]) ts m x9 x10 x11 x12) := by
  simp -implicitDefEqProofs [runB, chkB, kHash, eB, Env.at, hl]
theorem told_r (s : Str) (hl : ts.length < sizeLine) : runB (cfg n) kTold (eB ns C lean hs ts m x9 x10 (some (.str s, false)) x12) = some (eB ns C lean hs (ts ++ [s]) m x9 x10 (some (.str s, false)) x12) := by
  simp -implicitDefEqProofs [runB, chkB, kTold, eB, Env.at, hl]
theorem k1_r (k : Int) : tstB (cfg n) kK1 (eB ns C lean hs ts m x9 (some (.int k, false)) x11 x12) = some (decide (k = 1), eB ns C lean hs ts m x9 (some (.int k, false)) x11 x12) := by
  simp -implicitDefEqProofs [tstB, chkB, kK1, eB, Env.at]
theorem tup_r (k : Int) : ∃ b, tstB (cfg n) Dv.kTup (eB ns C lean hs ts m x9 (some (.int k, false)) x11 x12) = some (b, eB ns C lean hs ts m x9 (some (.int k, false)) x11 x12) := by
  by_cases h0 : k = 0
  · exact ⟨true, by simp -implicitDefEqProofs [tstB, chkB, Dv.kTup, eB, Env.at, h0]⟩
  · by_cases h1 : lean = 1
    · exact ⟨decide (2 < k), by simp -implicitDefEqProofs [tstB, chkB, Dv.kTup, eB, Env.at, h0, h1]⟩
    · exact ⟨false, by simp -implicitDefEqProofs [tstB, chkB, Dv.kTup, eB, Env.at, h0, h1]⟩
end
theorem eB_str11 {ns : List Int} {C : D} {lean : Int} {hs ts : List Str} {m : Int} {x9 x10 x12 : Option (D × Bool)} {s : Str} : strAt (eB ns C lean hs ts m x9 x10 (some (.str s, false)) x12) 11 = some s := rfl
theorem eB_str12 {ns : List Int} {C : D} {lean : Int} {hs ts : List Str} {m : Int} {x9 x10 x11 : Option (D × Bool)} {s : Str} : strAt (eB ns C lean hs ts m x9 x10 x11 (some (.str s, false))) 12 = some s := rfl
/-- what holds of a pile -/
structure Pile (st : Stk) (hs ts : List Str) (m : Int) : Prop where
  ne : st ≠ []
  h : hs = hS st
  t : ts = tS st
  m : m = cS st
  o : oS st = true
theorem hS_len : ∀ st : Stk, (hS st).length ≤ cS st + 1
  | [] => by simp [hS]
  | [(n, r)] => by have := l_c r; simp [hS, cS]; omega
  | [(n, r), (m, q)] => by have := l_c q; simp [hS, cS]; omega
  | (n, r) :: (a, q) :: s2 :: st => by
    have := hS_len ((a, q) :: s2 :: st)
    simp [hS, cS] at this ⊢
    omega
theorem tS_len : ∀ st : Stk, (tS st).length ≤ cS st
  | [] => by simp [tS]
  | [(n, r)] => by have := t_cs r; simp [tS, cS]; omega
  | (n, r) :: s :: st => by
    have := t_cs r
    have := tS_len (s :: st)
    simp [tS, cS] at this ⊢
    omega
theorem pile_close {st : Stk} {hs ts : List Str} {m : Int} (P : Pile st hs ts m) (h : 1 < st.length) : Pile (closeS st) hs ts m := by
  match st, P with
  | [(n, r)], _ => simp at h
  | (n, r) :: (a, q) :: st, P =>
    exact ⟨by simp [closeS], by rw [P.h, closeS, hS_close], by rw [P.t, closeS, tS_close], by rw [P.m, closeS, cS_close], by rw [closeS, oS_close]; exact P.o⟩
theorem pile_push {st : Stk} {hs ts : List Str} {m : Int} (P : Pile st hs ts m) {s : Str} (ha : asc s) : Pile ((s, []) :: st) (if st.length = 1 then hs ++ [s] else hs) ts (m + 1) := by
  have hs' := P.h
  match st, P with
  | [(n, r)], P => exact ⟨by simp, by rw [P.h]; simp [hS], by rw [P.t]; simp [tS, tWs], by rw [P.m]; simp [cS, cWs]; omega, by have := P.o; simp [oS, oWs, asc_ok ha] at this ⊢; exact this⟩
  | (n, r) :: s2 :: st, P => exact ⟨by simp, by rw [P.h]; simp [hS], by rw [P.t]; simp [tS, tWs], by rw [P.m]; simp [cS, cWs]; omega, by have := P.o; simp [oS, oWs, asc_ok ha] at this ⊢; exact this⟩
theorem pile_add {st : Stk} {hs ts : List Str} {m : Int} (P : Pile st hs ts m) {s : Str} (ha : asc s) : Pile (addS (.tx s) st) (if st.length = 1 then hs ++ [("#" : Str)] else hs) (ts ++ [s]) (m + 1) := by
  match st, P with
  | [(n, r)], P => exact ⟨by simp [addS], by rw [P.h]; simp [addS, hS, hW], by rw [P.t]; simp [addS, tS, tWs_app, tWs, tW], by rw [P.m]; simp [addS, cS, cWs_app, cWs, cW], by have := P.o; simp [addS, oS, oWs_app, oWs, oW, asc_ok ha] at this ⊢; exact this⟩
  | [(n, r), (a, q)], P => exact ⟨by simp [addS], by rw [P.h]; simp [addS, hS, hW], by rw [P.t]; simp [addS, tS, tWs_app, tWs, tW], by rw [P.m]; simp [addS, cS, cWs_app, cWs, cW]; omega, by have := P.o; simp [addS, oS, oWs_app, oWs, oW, asc_ok ha] at this ⊢; exact this⟩
  | (n, r) :: s2 :: s3 :: st, P => exact ⟨by simp [addS], by rw [P.h]; simp [addS, hS, hW], by rw [P.t]; simp [addS, tS, tWs_app, tWs, tW], by rw [P.m]; simp [addS, cS, cWs_app, cWs, cW]; omega, by have := P.o; simp [addS, oS, oWs_app, oWs, oW, asc_ok ha] at this ⊢; exact this⟩
theorem step_m {n : Nat} {ns : List Int} {C : D} {lean : Int} {hs ts : List Str} {m : Int} {x9 x10 x11 x12 : Option (D × Bool)} {st : Stk} (hl : lean = 0 ∨ lean = 1 ∨ lean = 2) (P : Pile st hs ts m) (hc : cS st ≤ 100) (x : Int) :
    ∃ st' hs' ts' m' y9 y10 y11 y12, stepB (cfg (n + 1)) (eB ns C lean hs ts m x9 x10 x11 x12, st) (.int x) = some (eB ns C lean hs' ts' m' y9 y10 y11 y12, st') ∧ Pile st' hs' ts' m' ∧ cS st' ≤ cS st + 1 := by
  have sz : 4000 ≤ sizeLine := by decide
  have h1 := hS_len st
  have h2 := tS_len st
  have lh : hs.length < sizeLine := by rw [P.h]; omega
  have lt : ts.length < sizeLine := by rw [P.t]; omega
  obtain ⟨k, e1⟩ := kind_r (n := n + 1) (ns := ns) (C := C) (hs := hs) (ts := ts) (m := m) (x10 := x10) (x11 := x11) (x12 := x12) hl x
  obtain ⟨s, e2, sa⟩ := text_r (n := n) (ns := ns) (C := C) (lean := lean) (hs := hs) (ts := ts) (m := m) (x10 := some (.int k, false)) (x11 := x11) (x12 := x12) x
  have e3 := k1_r (n := n + 1) (ns := ns) (C := C) (lean := lean) (hs := hs) (ts := ts) (m := m) (x9 := some (.int x, false)) (x11 := some (.str s, false)) (x12 := x12) k
  have e4 := many_r (n := n + 1) (ns := ns) (C := C) (lean := lean) (hs := hs) (ts := ts) (m := m) (x9 := some (.int x, false)) (x10 := some (.int k, false)) (x11 := some (.str s, false)) (x12 := x12)
  obtain ⟨b, e5⟩ := tup_r (n := n + 1) (ns := ns) (C := C) (lean := lean) (hs := hs) (ts := ts) (m := m + 1) (x9 := some (.int x, false)) (x11 := some (.str s, false)) (x12 := x12) k
  have e0 : bindT [2, 3] [9] (.int x) (eB ns C lean hs ts m x9 x10 x11 x12) = some (eB ns C lean hs ts m (some (.int x, false)) x10 x11 x12) := rfl
  have e0' : chkB (eB ns C lean hs ts m (some (.int x, false)) x10 x11 x12) = some (eB ns C lean hs ts m (some (.int x, false)) x10 x11 x12) := rfl
  have sm := small_ok hc
  unfold stepB
  simp only [e0, e0', e1, e2, e3, e4, e5, sm, Option.bind_some, if_true]
  by_cases c1 : (decide (k = 1) && decide (1 < st.length)) = true
  · rw [if_pos c1]
    have c2 : 1 < st.length := by simp at c1; exact c1.2
    have P2 := pile_close P c2
    refine ⟨_, _, _, _, _, _, _, _, rfl, P2, ?_⟩
    have q1 := P.m
    have q2 := P2.m
    omega
  · rw [if_neg c1]
    cases b with
    | true =>
      obtain ⟨nm, e6, na⟩ := name_r (n := n) (ns := ns) (C := C) (lean := lean) (hs := hs) (ts := ts) (m := m + 1) (x10 := some (.int k, false)) (x11 := some (.str s, false)) (x12 := x12) x
      have P2 := pile_push P na
      have e7 := head_r (n := n + 1) (ns := ns) (C := C) (lean := lean) (hs := hs) (ts := ts) (m := m + 1) (x9 := some (.int x, false)) (x10 := some (.int k, false)) (x11 := some (.str s, false)) nm lh
      simp only [e6, e7, Option.bind_some, if_true]
      have q1 := P.m
      have q2 := P2.m
      by_cases c3 : st.length = 1
      · simp only [if_pos c3, Option.bind_some] at P2 ⊢
        exact ⟨_, _, _, _, _, _, _, _, rfl, P2, by omega⟩
      · simp only [if_neg c3, Option.bind_some] at P2 ⊢
        exact ⟨_, _, _, _, _, _, _, _, rfl, P2, by omega⟩
    | false =>
      have P2 := pile_add P sa
      have q1 := P.m
      have q2 := P2.m
      have e7 := hash_r (n := n + 1) (ns := ns) (C := C) (lean := lean) (hs := hs) (ts := ts) (m := m + 1) (x9 := some (.int x, false)) (x10 := some (.int k, false)) (x11 := some (.str s, false)) (x12 := x12) lh
      simp only [e7, Bool.false_eq_true, if_false]
      by_cases c3 : st.length = 1
      · have e8 := told_r (n := n + 1) (ns := ns) (C := C) (lean := lean) (hs := hs ++ [("#" : Str)]) (ts := ts) (m := m + 1) (x9 := some (.int x, false)) (x10 := some (.int k, false)) (x12 := x12) s lt
        simp only [if_pos c3, Option.bind_some, eB_str11, e8] at P2 ⊢
        exact ⟨_, _, _, _, _, _, _, _, rfl, P2, by omega⟩
      · have e8 := told_r (n := n + 1) (ns := ns) (C := C) (lean := lean) (hs := hs) (ts := ts) (m := m + 1) (x9 := some (.int x, false)) (x10 := some (.int k, false)) (x12 := x12) s lt
        simp only [if_neg c3, Option.bind_some, eB_str11, e8] at P2 ⊢
        exact ⟨_, _, _, _, _, _, _, _, rfl, P2, by omega⟩
theorem loop_m {n : Nat} {ns : List Int} {C : D} {lean : Int} (hl : lean = 0 ∨ lean = 1 ∨ lean = 2) : ∀ (xs : List Int) {hs ts : List Str} {m : Int} {x9 x10 x11 x12 : Option (D × Bool)} {st : Stk}, Pile st hs ts m → cS st + xs.length ≤ 100 →
    ∃ st' hs' ts' m' y9 y10 y11 y12, loopB (cfg (n + 1)) (xs.map .int) (eB ns C lean hs ts m x9 x10 x11 x12, st) = some (eB ns C lean hs' ts' m' y9 y10 y11 y12, st') ∧ Pile st' hs' ts' m' ∧ cS st' ≤ cS st + xs.length
  | [], hs, ts, m, x9, x10, x11, x12, st, P, hc => ⟨_, _, _, _, _, _, _, _, rfl, P, by simp⟩
  | x :: xs, hs, ts, m, x9, x10, x11, x12, st, P, hc => by
    obtain ⟨st1, hs1, ts1, m1, z9, z10, z11, z12, e, P1, c1⟩ := step_m (n := n) (ns := ns) (C := C) (x9 := x9) (x10 := x10) (x11 := x11) (x12 := x12) hl P (by simp at hc; omega) x
    obtain ⟨st2, hs2, ts2, m2, y9, y10, y11, y12, e2, P2, c2⟩ := loop_m hl xs (x9 := z9) (x10 := z10) (x11 := z11) (x12 := z12) P1 (by simp at hc ⊢; omega)
    refine ⟨st2, hs2, ts2, m2, y9, y10, y11, y12, ?_, P2, by simp; omega⟩
    show (stepB _ _ _).bind _ = _
    rw [e]
    exact e2
end Lw
namespace Lw
open PySem PySem.Spec L2 Dv Dv.Q
theorem pre_r (n : Nat) (ns : List Int) : ∃ (lean : Int) (xs : List Int), (lean = 0 ∨ lean = 1 ∨ lean = 2) ∧ xs.length = 60 ∧ runB (cfg (n + 2)) kPre [some (.scr ns, false), some (.int 1, false), none, none, none, none, none, none, none, none, none, none, none] = some (eB ns (.nw (.lst (xs.map .int))) lean [] [] 0 none none none none) := by
  obtain ⟨c, e1⟩ := cell_ok (n + 1) ns 0
  have e2 := mix_ok (n + 1) c 3 (by decide)
  obtain ⟨xs, e3, hl⟩ := draws_ok n ns 5 60 (by decide) (by decide)
  have e1 : phi (n + 2) 3 [.scr ns, .int 0] = some (.int c, false, []) := e1
  have e2 : phi (n + 2) 5 [.int c, .int 3] = some (.int (mixI c 3), false, []) := e2
  have e3 : phi (n + 2) 9 [.scr ns, .int 5, .int 60] = some (.lst (xs.map .int), true, []) := e3
  refine ⟨mixI c 3 % 3, xs, by omega, hl, ?_⟩
  simp -implicitDefEqProofs [runB, chkB, kPre, kLean, kDraws, eB, Env.at, callD, sg, e1, e2, e3]
theorem it_r (n : Nat) (ns : List Int) (lean : Int) (xs : List Int) (hl : xs.length = 60) : ∃ ys : List Int, ys.length ≤ 60 ∧ (ev { cfg n with lk := [2, 3] } kIt).i (eB ns (.nw (.lst (xs.map .int))) lean [] [] 0 none none none none) = some (ys.map .int, eB ns (.nw (.lst (xs.map .int))) lean [] [] 0 none none none none) := by
  have a1 : atI (xs.map D.int) 59 = some (.int xs[59]) := map_at (k := 59) (List.getElem?_eq_getElem (by omega))
  obtain ⟨j, hj, hj2⟩ : ∃ j : Nat, xs[59] % 60 = (j : Int) ∧ j ≤ 60 := ⟨(xs[59] % 60).toNat, by omega, by omega⟩
  have sz : 4000 ≤ sizeLine := by decide
  have k1 : xs.length ≤ sizeLine := by omega
  refine ⟨xs.take j, by simp; omega, ?_⟩
  have c1 := cut_take xs j (by omega)
  simp -implicitDefEqProofs [kIt, eB, Env.at, a1, hj, cutL_map, c1, k1, hl]
theorem built_m (n : Nat) (ns : List Int) : ∃ st hs ts m, phi (n + 3) 10 [.scr ns, .int 1] = some (.nw (.tup [.nw (.lst (dWs (rowS st))), .int m, .nw (.lst (ts.map .str)), .nw (.lst (hs.map .str))]), false, []) ∧ Pile st hs ts m ∧ cS st ≤ 60 := by
  obtain ⟨lean, xs, hlean, hl, e1⟩ := pre_r n ns
  obtain ⟨ys, hy, e2⟩ := it_r (n + 2) ns lean xs hl
  obtain ⟨st, hs, ts, m, y9, y10, y11, y12, e3, P, hc⟩ := loop_m (n := n + 1) (ns := ns) (C := .nw (.lst (xs.map .int))) (lean := lean) hlean ys (hs := []) (ts := []) (m := 0) (x9 := none) (x10 := none) (x11 := none) (x12 := none) (st := [("", [])]) ⟨by simp, rfl, rfl, rfl, by decide +kernel⟩ (by simp [cS, cWs]; omega)
  have hc : cS st ≤ 60 := by simp [cS, cWs] at hc; omega
  refine ⟨st, hs, ts, m, ?_, P, hc⟩
  show evX [false, false] 13 (builtX (cfg (n + 2))) _ = _
  have e4 : chkB (eB ns (.nw (.lst (xs.map .int))) lean [] [] 0 none none none none) = some (eB ns (.nw (.lst (xs.map .int))) lean [] [] 0 none none none none) := rfl
  have b : builtX (cfg (n + 2)) [some (.scr ns, false), some (.int 1, false), none, none, none, none, none, none, none, none, none, none, none] = some (.rt (.nw (.tup [.nw (.lst (dWs (rowS st))), .int m, .nw (.lst (ts.map .str)), .nw (.lst (hs.map .str))])) false [some (.scr ns, false), some (.int 1, false), some (.nw (.lst (dWs (rowS st))), false), none, some (.nw (.lst (hs.map .str)), false), some (.nw (.lst (ts.map .str)), false), some (.int m, false), some (.int lean, false), some (.nw (.lst (xs.map .int)), false), y9, y10, y11, y12]) := by
    unfold builtX
    rw [if_pos (by rfl)]
    simp only [e1, e2, e4, e3, Option.bind_some]
    rw [if_pos (by rfl)]
    simp -implicitDefEqProofs [kRet, eB]
  unfold evX
  rw [if_pos ⟨rfl, by decide⟩]
  show ((builtX (cfg (n + 2)) [some (.scr ns, false), some (.int 1, false), none, none, none, none, none, none, none, none, none, none, none]).bind _) = _
  rw [b]
  rfl
theorem whole_ok (n : Nat) (k : Int) : phi (n + 1) 4 [.int k] = some (.bl true, false, []) := by
  show evF (cfg n) (fn 4) _ = _
  simp -implicitDefEqProofs [evF, fn, b_4]
theorem plain (ns : List Int) : ns.length ≤ 63 → (∀ z ∈ ns, Builtin.Int.intBits z ≤ 1048576) → ∃ xs, phi 110 11 [.scr ns] = some (.bl true, false, xs) := by
  intro _ _
  have sz : 4000 ≤ sizeLine := by decide
  obtain ⟨st, hs, ts, m, e1, P, hc⟩ := built_m 106 ns
  have e1 : phi 109 10 [.scr ns, .int 1] = _ := e1
  obtain ⟨k, hk⟩ : ∃ k, st.length = k + 1 := by
    have := P.ne
    cases st with
    | nil => exact absurd rfl this
    | cons s st => exact ⟨st.length, rfl⟩
  obtain ⟨r1, r2, r3, r4⟩ := row_all k st hk
  have o := r4 P.o
  rw [P.m, ← r1, P.t, ← r2, P.h, ← r3] at e1
  rw [← r1] at hc
  generalize rowS st = r at *
  have ec := e_cs r
  have lc := l_c r
  have tc := t_cs r
  have q1 : phi 109 0 [.lst (dWs r)] = _ := size_ok 109 r (.lst (dWs r)) rfl (by omega)
  have q2 : phi 109 1 [.nw (.lst (dWs r))] = _ := texts_ok 109 r (.nw (.lst (dWs r))) rfl (by omega) (by omega)
  have q3 : phi 109 2 [.nw (.lst (dWs r))] = _ := word_ok 108 r (.nw (.lst (dWs r))) rfl (by omega)
  have q4 : phi 109 4 [.int (cWs r : Int)] = _ := whole_ok 108 (cWs r)
  have q5 : phi 109 6 [.lst ((tWs r).map .str), .lst ((tWs r).map .str)] = _ := textsq_ok 108 (tWs r) _ _ rfl rfl (by omega)
  have q6 : phi 109 6 [.lst ((r.map hW).map .str), .lst ((r.map hW).map .str)] = _ := textsq_ok 108 (r.map hW) _ _ rfl rfl (by simp; omega)
  have q7 := row_eq r o (by omega)
  refine ⟨[], ?_⟩
  show evF (cfg 109) (fn 11) _ = _
  simp -implicitDefEqProofs at q2 q3 q5 q6 q7 e1
  simp -implicitDefEqProofs [evF, fn, b_11, callD, sg, setNs, e1, q1, q2, q3, q4, q5, q6, q7]
end Lw
namespace Lw
open PySem PySem.Spec L2 Dv
structure Defs (c0 : Ct0) (mg : Str → Option Value) : Prop where
  d0 : DefAt c0.K mg "size" st_0 ["row"]
  d1 : DefAt c0.K mg "texts" st_1 ["row"]
  d2 : DefAt c0.K mg "word" st_2 ["row"]
  d3 : DefAt c0.K mg "_law_cell_at" st_3 ["_law_script", "_law_k"]
  d4 : DefAt c0.K mg "_law_whole" st_4 ["_law_found"]
  d5 : DefAt c0.K mg "_law_mix" st_5 ["_law_cell", "_law_turn"]
  d6 : DefAt c0.K mg "_law_texts" st_6 ["_law_found", "_law_due"]
  d7 : DefAt c0.K mg "_law_text" st_7 ["_law_number", "_law_long"]
  d8 : DefAt c0.K mg "_law_name" st_8 ["_law_number"]
  d9 : DefAt c0.K mg "_law_draws" st_9 ["_law_script", "_law_turn", "_law_many"]
  d10 : DefAt c0.K mg "_law_built" st_10 ["_law_script", "_law_start"]
  d11 : DefAt c0.K mg "law" st_11 ["_law_script"]
  b_bool : mg "bool" = none
  b_int : mg "int" = none
  b_isinstance : mg "isinstance" = none
  b_len : mg "len" = none
  b_list : mg "list" = none
  b_range : mg "range" = none
  b_str : mg "str" = none
theorem all {c0 : Ct0} {P : Program} {w : World} {mg : Str → Option Value} {base : Heap} (D : Defs c0 mg) : ∀ n : Nat, Txt P w c0.K mg base (2 * n + 2) (Phi c0 n)
  | 0 => { c0 := (lift0 D.d0 (fun _ => rfl) fun _ => rfl), c1 := (lift0 D.d1 (fun _ => rfl) fun _ => rfl), c2 := (lift0 D.d2 (fun _ => rfl) fun _ => rfl), c3 := (lift0 D.d3 (fun _ => rfl) fun _ => rfl), c4 := (lift0 D.d4 (fun _ => rfl) fun _ => rfl), c5 := (lift0 D.d5 (fun _ => rfl) fun _ => rfl), c6 := (lift0 D.d6 (fun _ => rfl) fun _ => rfl), c7 := (lift0 D.d7 (fun _ => rfl) fun _ => rfl), c8 := (lift0 D.d8 (fun _ => rfl) fun _ => rfl), c9 := (lift0 D.d9 (fun _ => rfl) fun _ => rfl), c10 := (lift0 D.d10 (fun _ => rfl) fun _ => rfl), c11 := (lift0 D.d11 (fun _ => rfl) fun _ => rfl), b_bool := D.b_bool, b_int := D.b_int, b_isinstance := D.b_isinstance, b_len := D.b_len, b_list := D.b_list, b_range := D.b_range, b_str := D.b_str }
  | n + 1 => by
    have T := all (P := P) (w := w) (base := base) D n
    exact {
      c0 := (lift D.d0 sc_0 rfl rfl rfl (sees c0 n) (xok c0 n) fun _ _ _ _ _ _ _ hr => der_0 T (by omega) hr),
      c1 := (lift D.d1 sc_1 rfl rfl rfl (sees c0 n) (xok c0 n) fun _ _ _ _ _ _ _ hr => der_1 T (by omega) hr),
      c2 := (lift D.d2 sc_2 rfl rfl rfl (sees c0 n) (xok c0 n) fun _ _ _ _ _ _ _ hr => der_2 T (by omega) hr),
      c3 := (lift D.d3 sc_3 rfl rfl rfl (sees c0 n) (xok c0 n) fun _ _ _ _ _ _ _ hr => der_3 T (by omega) hr),
      c4 := (lift D.d4 sc_4 rfl rfl rfl (sees c0 n) (xok c0 n) fun _ _ _ _ _ _ _ hr => der_4 T (by omega) hr),
      c5 := (lift D.d5 sc_5 rfl rfl rfl (sees c0 n) (xok c0 n) fun _ _ _ _ _ _ _ hr => der_5 T (by omega) hr),
      c6 := (lift D.d6 sc_6 rfl rfl rfl (sees c0 n) (xok c0 n) fun _ _ _ _ _ _ _ hr => der_6 T (by omega) hr),
      c7 := (lift D.d7 sc_7 rfl rfl rfl (sees c0 n) (xok c0 n) fun _ _ _ _ _ _ _ hr => der_7 T (by omega) hr),
      c8 := (lift D.d8 sc_8 rfl rfl rfl (sees c0 n) (xok c0 n) fun _ _ _ _ _ _ _ hr => der_8 T (by omega) hr),
      c9 := (lift D.d9 sc_9 rfl rfl rfl (sees c0 n) (xok c0 n) fun _ _ _ _ _ _ _ hr => der_9 T (by omega) hr),
      c10 := handF D.d10 sc_10 (fun _ _ _ E h => spX_len h) (fun _ _ _ _ _ _ _ hr => der_10 T (by omega) hr) fun _ _ _ E h => built_body (sees c0 n) rfl rfl (spX_of h fun _ => rfl),
      c11 := (lift D.d11 sc_11 rfl rfl rfl (sees c0 n) (xok c0 n) fun _ _ _ _ _ _ _ hr => der_11 T (by omega) hr),
      b_bool := D.b_bool, b_int := D.b_int, b_isinstance := D.b_isinstance, b_len := D.b_len, b_list := D.b_list, b_range := D.b_range, b_str := D.b_str }
def adr (K : PySem.W.Frag) (s : Str) : Addr := match PySem.W.nsIn K mainGlobals s with | some (some (.ref a)) => a | _ => 0
theorem adr_of {K : PySem.W.Frag} {s : Str} {a : Addr} (h : PySem.W.nsIn K mainGlobals s = some (some (.ref a))) : adr K s = a := by unfold adr; rw [h]
def ccOf (K : PySem.W.Frag) : Nat → Addr := fun i => ([] : List Addr).getD i 0
theorem all_mk {l : PySem.W.OpenLaw} {w : World} {K : PySem.W.Frag} {h : Heap} {mg : Str → Option Value} {fa : Addr} (X : K.In h) (G : h.Ns mainGlobals mg) (hfa : mg "law" = some (.ref fa))
    {f0 f1 f2 f3 f4 f5 f6 f7 f8 f9 f10 f11 : Addr} {od0 an0 od1 an1 od2 an2 od3 an3 od4 an4 od5 an5 od6 an6 od7 an7 od8 an8 od9 an9 od10 an10 od11 an11 : Option Addr} {sl0 sl1 sl2 sl3 sl4 sl5 sl6 sl7 sl8 sl9 sl10 sl11 : Array (Option Value)} {oc0 kV0 dc0 pm0 cd0 ct0 oc1 kV1 dc1 pm1 cd1 ct1 oc2 kV2 dc2 pm2 cd2 ct2 oc3 kV3 dc3 pm3 cd3 ct3 oc4 kV4 dc4 pm4 cd4 ct4 oc5 kV5 dc5 pm5 cd5 ct5 oc6 kV6 dc6 pm6 cd6 ct6 oc7 kV7 dc7 pm7 cd7 ct7 oc8 kV8 dc8 pm8 cd8 ct8 oc9 kV9 dc9 pm9 cd9 ct9 oc10 kV10 dc10 pm10 cd10 ct10 oc11 kV11 dc11 pm11 cd11 ct11 : Value}
    (a0 : PySem.W.nsIn K mainGlobals "size" = some (some (.ref f0)))
    (l0 : K.lookup f0 = some ⟨oc0, od0, .func (PySem.W.fnOf "size" "size" (defArgs st_0) (defBody st_0) (defScope st_0) .none kV0 dc0 pm0 an0 cd0 ct0), sl0⟩)
    (c0 : PySem.W.codeIn K cd0 "size" = true)
    (k0 : PySem.W.keepIn K (.ref f0) = true)
    (a1 : PySem.W.nsIn K mainGlobals "texts" = some (some (.ref f1)))
    (l1 : K.lookup f1 = some ⟨oc1, od1, .func (PySem.W.fnOf "texts" "texts" (defArgs st_1) (defBody st_1) (defScope st_1) .none kV1 dc1 pm1 an1 cd1 ct1), sl1⟩)
    (c1 : PySem.W.codeIn K cd1 "texts" = true)
    (k1 : PySem.W.keepIn K (.ref f1) = true)
    (a2 : PySem.W.nsIn K mainGlobals "word" = some (some (.ref f2)))
    (l2 : K.lookup f2 = some ⟨oc2, od2, .func (PySem.W.fnOf "word" "word" (defArgs st_2) (defBody st_2) (defScope st_2) .none kV2 dc2 pm2 an2 cd2 ct2), sl2⟩)
    (c2 : PySem.W.codeIn K cd2 "word" = true)
    (k2 : PySem.W.keepIn K (.ref f2) = true)
    (a3 : PySem.W.nsIn K mainGlobals "_law_cell_at" = some (some (.ref f3)))
    (l3 : K.lookup f3 = some ⟨oc3, od3, .func (PySem.W.fnOf "_law_cell_at" "_law_cell_at" (defArgs st_3) (defBody st_3) (defScope st_3) .none kV3 dc3 pm3 an3 cd3 ct3), sl3⟩)
    (c3 : PySem.W.codeIn K cd3 "_law_cell_at" = true)
    (k3 : PySem.W.keepIn K (.ref f3) = true)
    (a4 : PySem.W.nsIn K mainGlobals "_law_whole" = some (some (.ref f4)))
    (l4 : K.lookup f4 = some ⟨oc4, od4, .func (PySem.W.fnOf "_law_whole" "_law_whole" (defArgs st_4) (defBody st_4) (defScope st_4) .none kV4 dc4 pm4 an4 cd4 ct4), sl4⟩)
    (c4 : PySem.W.codeIn K cd4 "_law_whole" = true)
    (k4 : PySem.W.keepIn K (.ref f4) = true)
    (a5 : PySem.W.nsIn K mainGlobals "_law_mix" = some (some (.ref f5)))
    (l5 : K.lookup f5 = some ⟨oc5, od5, .func (PySem.W.fnOf "_law_mix" "_law_mix" (defArgs st_5) (defBody st_5) (defScope st_5) .none kV5 dc5 pm5 an5 cd5 ct5), sl5⟩)
    (c5 : PySem.W.codeIn K cd5 "_law_mix" = true)
    (k5 : PySem.W.keepIn K (.ref f5) = true)
    (a6 : PySem.W.nsIn K mainGlobals "_law_texts" = some (some (.ref f6)))
    (l6 : K.lookup f6 = some ⟨oc6, od6, .func (PySem.W.fnOf "_law_texts" "_law_texts" (defArgs st_6) (defBody st_6) (defScope st_6) .none kV6 dc6 pm6 an6 cd6 ct6), sl6⟩)
    (c6 : PySem.W.codeIn K cd6 "_law_texts" = true)
    (k6 : PySem.W.keepIn K (.ref f6) = true)
    (a7 : PySem.W.nsIn K mainGlobals "_law_text" = some (some (.ref f7)))
    (l7 : K.lookup f7 = some ⟨oc7, od7, .func (PySem.W.fnOf "_law_text" "_law_text" (defArgs st_7) (defBody st_7) (defScope st_7) .none kV7 dc7 pm7 an7 cd7 ct7), sl7⟩)
    (c7 : PySem.W.codeIn K cd7 "_law_text" = true)
    (k7 : PySem.W.keepIn K (.ref f7) = true)
    (a8 : PySem.W.nsIn K mainGlobals "_law_name" = some (some (.ref f8)))
    (l8 : K.lookup f8 = some ⟨oc8, od8, .func (PySem.W.fnOf "_law_name" "_law_name" (defArgs st_8) (defBody st_8) (defScope st_8) .none kV8 dc8 pm8 an8 cd8 ct8), sl8⟩)
    (c8 : PySem.W.codeIn K cd8 "_law_name" = true)
    (k8 : PySem.W.keepIn K (.ref f8) = true)
    (a9 : PySem.W.nsIn K mainGlobals "_law_draws" = some (some (.ref f9)))
    (l9 : K.lookup f9 = some ⟨oc9, od9, .func (PySem.W.fnOf "_law_draws" "_law_draws" (defArgs st_9) (defBody st_9) (defScope st_9) .none kV9 dc9 pm9 an9 cd9 ct9), sl9⟩)
    (c9 : PySem.W.codeIn K cd9 "_law_draws" = true)
    (k9 : PySem.W.keepIn K (.ref f9) = true)
    (a10 : PySem.W.nsIn K mainGlobals "_law_built" = some (some (.ref f10)))
    (l10 : K.lookup f10 = some ⟨oc10, od10, .func (PySem.W.fnOf "_law_built" "_law_built" (defArgs st_10) (defBody st_10) (defScope st_10) .none kV10 dc10 pm10 an10 cd10 ct10), sl10⟩)
    (c10 : PySem.W.codeIn K cd10 "_law_built" = true)
    (k10 : PySem.W.keepIn K (.ref f10) = true)
    (a11 : PySem.W.nsIn K mainGlobals "law" = some (some (.ref f11)))
    (l11 : K.lookup f11 = some ⟨oc11, od11, .func (PySem.W.fnOf "law" "law" (defArgs st_11) (defBody st_11) (defScope st_11) .none kV11 dc11 pm11 an11 cd11 ct11), sl11⟩)
    (c11 : PySem.W.codeIn K cd11 "law" = true)
    (k11 : PySem.W.keepIn K (.ref f11) = true)
    (z_bool : PySem.W.nsIn K mainGlobals "bool" = some none)
    (z_int : PySem.W.nsIn K mainGlobals "int" = some none)
    (z_isinstance : PySem.W.nsIn K mainGlobals "isinstance" = some none)
    (z_len : PySem.W.nsIn K mainGlobals "len" = some none)
    (z_list : PySem.W.nsIn K mainGlobals "list" = some none)
    (z_range : PySem.W.nsIn K mainGlobals "range" = some none)
    (z_str : PySem.W.nsIn K mainGlobals "str" = some none)
    : ∃ fd : FuncData, (∀ (s : Shared) (v : Value), BindsTo s fd ⟨[v], []⟩ [("_law_script", v)]) ∧ ∀ base : Heap, K.In base → base.Ns mainGlobals mg → FnOk l.prog w K mg base CX0 (2 * 110 + 2) fa fd ["_law_script"] (spOf ⟨ccOf K, K⟩ (sg 11) (phi 110 11)) := by
  have ec : ccOf K = fun i => ([] : List Addr).getD i 0 := by
    unfold ccOf
    rfl
  rw [ec]
  have e := hfa.symm.trans (PySem.W.mg_of X G a11)
  cases e
  have F0 := fun_mk (st := st_0) l0 c0 k0
  have e0 := F0.binds (ps := ["row"]) fun _ _ _ _ _ _ us hl => match us, hl with | [_], _ => rfl
  have F1 := fun_mk (st := st_1) l1 c1 k1
  have e1 := F1.binds (ps := ["row"]) fun _ _ _ _ _ _ us hl => match us, hl with | [_], _ => rfl
  have F2 := fun_mk (st := st_2) l2 c2 k2
  have e2 := F2.binds (ps := ["row"]) fun _ _ _ _ _ _ us hl => match us, hl with | [_], _ => rfl
  have F3 := fun_mk (st := st_3) l3 c3 k3
  have e3 := F3.binds (ps := ["_law_script", "_law_k"]) fun _ _ _ _ _ _ us hl => match us, hl with | [_, _], _ => rfl
  have F4 := fun_mk (st := st_4) l4 c4 k4
  have e4 := F4.binds (ps := ["_law_found"]) fun _ _ _ _ _ _ us hl => match us, hl with | [_], _ => rfl
  have F5 := fun_mk (st := st_5) l5 c5 k5
  have e5 := F5.binds (ps := ["_law_cell", "_law_turn"]) fun _ _ _ _ _ _ us hl => match us, hl with | [_, _], _ => rfl
  have F6 := fun_mk (st := st_6) l6 c6 k6
  have e6 := F6.binds (ps := ["_law_found", "_law_due"]) fun _ _ _ _ _ _ us hl => match us, hl with | [_, _], _ => rfl
  have F7 := fun_mk (st := st_7) l7 c7 k7
  have e7 := F7.binds (ps := ["_law_number", "_law_long"]) fun _ _ _ _ _ _ us hl => match us, hl with | [_, _], _ => rfl
  have F8 := fun_mk (st := st_8) l8 c8 k8
  have e8 := F8.binds (ps := ["_law_number"]) fun _ _ _ _ _ _ us hl => match us, hl with | [_], _ => rfl
  have F9 := fun_mk (st := st_9) l9 c9 k9
  have e9 := F9.binds (ps := ["_law_script", "_law_turn", "_law_many"]) fun _ _ _ _ _ _ us hl => match us, hl with | [_, _, _], _ => rfl
  have F10 := fun_mk (st := st_10) l10 c10 k10
  have e10 := F10.binds (ps := ["_law_script", "_law_start"]) fun _ _ _ _ _ _ us hl => match us, hl with | [_, _], _ => rfl
  have F11 := fun_mk (st := st_11) l11 c11 k11
  have e11 := F11.binds (ps := ["_law_script"]) fun _ _ _ _ _ _ us hl => match us, hl with | [_], _ => rfl
  have D : Defs ⟨fun i => ([] : List Addr).getD i 0, K⟩ mg := { d0 := ⟨_, _, F0, PySem.W.mg_of X G a0, e0⟩, d1 := ⟨_, _, F1, PySem.W.mg_of X G a1, e1⟩, d2 := ⟨_, _, F2, PySem.W.mg_of X G a2, e2⟩, d3 := ⟨_, _, F3, PySem.W.mg_of X G a3, e3⟩, d4 := ⟨_, _, F4, PySem.W.mg_of X G a4, e4⟩, d5 := ⟨_, _, F5, PySem.W.mg_of X G a5, e5⟩, d6 := ⟨_, _, F6, PySem.W.mg_of X G a6, e6⟩, d7 := ⟨_, _, F7, PySem.W.mg_of X G a7, e7⟩, d8 := ⟨_, _, F8, PySem.W.mg_of X G a8, e8⟩, d9 := ⟨_, _, F9, PySem.W.mg_of X G a9, e9⟩, d10 := ⟨_, _, F10, PySem.W.mg_of X G a10, e10⟩, d11 := ⟨_, _, F11, PySem.W.mg_of X G a11, e11⟩, b_bool := PySem.W.mg_none_of X G z_bool, b_int := PySem.W.mg_none_of X G z_int, b_isinstance := PySem.W.mg_none_of X G z_isinstance, b_len := PySem.W.mg_none_of X G z_len, b_list := PySem.W.mg_none_of X G z_list, b_range := PySem.W.mg_none_of X G z_range, b_str := PySem.W.mg_none_of X G z_str }
  refine ⟨_, fun s v => .of_eq rfl, fun base _ _ => law_fn (fn_ok (c0 := ⟨fun i => ([] : List Addr).getD i 0, K⟩) (g := cfg 109) (ψ := psi 109) (sg := sg 11) (fn := fn 11) (Φ := Phi ⟨fun i => ([] : List Addr).getD i 0, K⟩ 109) (sees _ _) (xok _ _) F11 sc_11 rfl rfl rfl fun cdv A outer s H E hr => der_11 (all (c0 := ⟨fun i => ([] : List Addr).getD i 0, K⟩) D 109) (by omega) hr)⟩
theorem walk {l : PySem.W.OpenLaw} {q : Program} {loose : List Str} {XP : (Str → Option Value) → Heap → Prop} {YP : World → Heap → Prop} {d : DefRec} {K : Params → PySem.W.Frag} (hn : l.most = some 63) (hdf : d.params.defaults = [])
    (hY : ∀ (w : World) (h : Heap), YP w h → (K w.params).In h)
    (F : ∀ (w : World) (mg : Str → Option Value) (fa : Addr) (h : Heap), (K w.params).In h → h.Ns mainGlobals mg → mg d.name = some (.ref fa) →
      ∃ fd : FuncData, (∀ (s : Shared) (u : Value), BindsTo s fd ⟨[u], []⟩ [("_law_script", u)]) ∧ ∀ base : Heap, (K w.params).In base → base.Ns mainGlobals mg → FnOk l.prog w (K w.params) mg base CX0 (2 * 110 + 2) fa fd ["_law_script"] (spOf ⟨ccOf (K w.params), K w.params⟩ (sg 11) (phi 110 11)))
    (hlaw : ∀ ns : List Int, ns.length ≤ 63 → (∀ z ∈ ns, Builtin.Int.intBits z ≤ 1048576) → ∃ xs, phi 110 11 [.scr ns] = some (.bl true, false, xs)) :
    PySem.W.WalkO q loose XP YP l.row.toRowW d [] (fun f vs => PySem.call f vs) :=
  L2.walk_ofB (n := 63) (k := 2 * 110 + 2) (x := "_law_script") (CX := fun _ => CX0) (sp := fun w => spOf ⟨ccOf (K w.params), K w.params⟩ (sg 11) (phi 110 11)) hn (by decide) hdf ⟨rfl, by decide, by decide⟩ hY F (fun _ _ a ns hl hb _ hS => spOf_law rfl hS (hlaw ns hl hb)) fun _ _ _ _ _ z => z
end Lw
open PySem PySem.W PyProof.Rows L2 in
set_option maxRecDepth 100000 in
set_option maxHeartbeats 0 in
theorem PySem.Challenge.cw_formferry_k01_rows_counted_holds : PySem.Challenge.rw_formferry_k01_rows_counted.Holds := by
  w_on; o_law; k_head; (case hw => w_witness2)
  k_fill
  refine Lw.walk (l := PySem.Challenge.rw_formferry_k01_rows_counted) rfl rfl (fun w h Y => PySem.W.kIn_of Y) ?F Lw.plain
  case F =>
    intro w mg fa h KX G hmg
    refine' Lw.all_mk KX G hmg ?a0 ?l0 ?c0 ?k0 ?a1 ?l1 ?c1 ?k1 ?a2 ?l2 ?c2 ?k2 ?a3 ?l3 ?c3 ?k3 ?a4 ?l4 ?c4 ?k4 ?a5 ?l5 ?c5 ?k5 ?a6 ?l6 ?c6 ?k6 ?a7 ?l7 ?c7 ?k7 ?a8 ?l8 ?c8 ?k8 ?a9 ?l9 ?c9 ?k9 ?a10 ?l10 ?c10 ?k10 ?a11 ?l11 ?c11 ?k11 ?z_bool ?z_int ?z_isinstance ?z_len ?z_list ?z_range ?z_str
    (case a0 => k_is)
    (case l0 => k_is)
    (case c0 => k_is)
    (case k0 => k_is)
    (case a1 => k_is)
    (case l1 => k_is)
    (case c1 => k_is)
    (case k1 => k_is)
    (case a2 => k_is)
    (case l2 => k_is)
    (case c2 => k_is)
    (case k2 => k_is)
    (case a3 => k_is)
    (case l3 => k_is)
    (case c3 => k_is)
    (case k3 => k_is)
    (case a4 => k_is)
    (case l4 => k_is)
    (case c4 => k_is)
    (case k4 => k_is)
    (case a5 => k_is)
    (case l5 => k_is)
    (case c5 => k_is)
    (case k5 => k_is)
    (case a6 => k_is)
    (case l6 => k_is)
    (case c6 => k_is)
    (case k6 => k_is)
    (case a7 => k_is)
    (case l7 => k_is)
    (case c7 => k_is)
    (case k7 => k_is)
    (case a8 => k_is)
    (case l8 => k_is)
    (case c8 => k_is)
    (case k8 => k_is)
    (case a9 => k_is)
    (case l9 => k_is)
    (case c9 => k_is)
    (case k9 => k_is)
    (case a10 => k_is)
    (case l10 => k_is)
    (case c10 => k_is)
    (case k10 => k_is)
    (case a11 => k_is)
    (case l11 => k_is)
    (case c11 => k_is)
    (case k11 => k_is)
    (case z_bool => k_is)
    (case z_int => k_is)
    (case z_isinstance => k_is)
    (case z_len => k_is)
    (case z_list => k_is)
    (case z_range => k_is)
    (case z_str => k_is)
