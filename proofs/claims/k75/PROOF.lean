import PyProof.Rows.All
import Wide.All
import OpenK.AllK
import Wide.FinOn
import PyProof.EqAt
import PyProof.EqKinds
import PyProof.TupleCall
import HandS.Base
import HandS.Call
import HandS.List
import HandS.TupAny
import HandS.Comp
import HandS.Dict
import HandS.Iter
import HandS.Walk
import HandS.Flow
import HandS.Ends
import HandS.Exc
import HandS.HeadHook1
import HandS.Deep
import HandS.Style
import HandS.Wide
import HandS.Star
import HandS.IsInst
import HandS.SortInts
import HandS.Text
import HandS.Words
import HandS.Defaults
import HandS.Zip
import KE.GoesNew
import KE.GoesMore
import PyProof.EnumMake
import HandS.Gcd
import HandS.Strs
import HandS.Conv
import HandS.OwnEq
import HandS.DictComp
import HandS.WordsDict
import HandS.More
import KE.KStateDown
import Lean
import HandS.Head0
import HandS.Head1
import HandS.Head2
import HandS.HeadEnd
import HandS.HeadHook2
import HandS.Codes
import PySem.Challenge.RW_honestrules_k75_steady_matchings_are_a_l
set_option Elab.async false
set_option linter.all false
set_option maxRecDepth 100000
set_option maxHeartbeats 4000000
/-! Dn T: new tuples whose one object is known (they have no dict of their own). -/
namespace Dn
open PySem PySem.Spec PyProof.Rows L2
/-- a tuple without a dict of its own -/
def SqZ (K : PySem.W.Frag) (H : Hp) (a : Addr) (xs : List V) : Prop :=
  (∃ ob, H a = some (.frz ob (.tup xs)) ∧ ob.dict = none) ∨
    ∃ (o : Obj) (its : Array Value) (n : Nat), K.lookup a = some o ∧ o.cls = .type "tuple" ∧ o.dict = none ∧ o.data = .seq its n ∧ its.size ≤ sizeLine ∧ Vals xs its.toList
theorem SqZ.t {K : PySem.W.Frag} {H : Hp} {a : Addr} {xs : List V} (h : SqZ K H a xs) : SqT K H a xs := by
  rcases h with ⟨ob, h, _⟩ | ⟨o, its, n, h1, h2, _, h3, h4, h5⟩
  · exact .inl (.inr ⟨ob, h⟩)
  · exact .inr ⟨o, its, n, h1, h2, h3, h4, h5⟩
theorem SqZ.of {K : PySem.W.Frag} {H : Hp} {a : Addr} {xs : List V} {ob : Obj} (h : H a = some (.frz ob (.tup xs))) (d : ob.dict = none) : SqZ K H a xs := .inl ⟨ob, h, d⟩
/-- what follows a new tuple -/
def NewT (vs : List V) (H : Hp) (Q : VK) : Prop := ∀ p ob, H p = none → ob.dict = none → Q (.ref p) (upd H p (.frz ob (.tup vs)))
def tTupZ (t : TA) : TE := fun σ H Q => t σ H fun xs H1 => xs.length ≤ sizeLine ∧ NewT xs H1 Q
section
variable {X : Cx} {es : List Expr} {t : TA} {pos : Pos}
theorem ObjOk.frzT {P : Program} {w : World} {H : Hp} {h : Heap} {a : Addr} {xs : List V} {its : List Value} {n : Nat} (z : xs.length ≤ sizeLine) (r : Vals xs its) (e : h.get? a = some { cls := .type "tuple", data := .seq its.toArray n }) : ObjOk P w H h a (.frz { cls := .type "tuple", data := .seq its.toArray n } (.tup xs)) :=
  ⟨e, z, its, r, _, e, rfl, n, rfl⟩
theorem pe_tupZ {x1} (h : PA X es t) : PE X (.Tuple es x1 pos) (tTupZ t) := by
  refine ⟨fun pins s σ H Q I hq => ?_⟩
  refine wpAny_Tuple_spliced (thn (h.run pos pins s σ H _ I hq) fun us s1 ⟨xs, H1, I1, r, z, q⟩ => ⟨by rw [← r.length]; exact z, ?_⟩)
  have hf : H1 s1.heap.objs.size = none := I1.hok.fresh (Nat.le_refl _)
  exact ⟨.ref s1.heap.objs.size, _, I1.laid (t' := s1.toks) (fun b u e => Heap.get?_push_of_some _ e) (Nat.le_refl _) (ObjOk.frzT z r (Heap.get?_push_size _ rfl)), rfl, q _ _ hf rfl⟩
/-- tuple(list), tuple(tuple) -/
theorem call_tuple_ofZ : CallR X (.type "tuple") (fun xs H Q => ∃ p ys, xs = [.ref p] ∧ ((SqL X.K H p ys ∧ NewT ys H Q) ∨ (SqT X.K H p ys ∧ Q (.ref p) H))) := by
  intro pins s σ H xs us Q I r h
  obtain ⟨p, ys, rfl, h⟩ := h
  obtain ⟨u, rfl, rx⟩ := vals1 r
  cases rx
  rcases h with ⟨hq, q⟩ | ⟨hq, q⟩
  · obtain ⟨its, r', pl, hz⟩ := I.list hq
    have hlen := r'.length
    refine call_tuple_list pl.isList (fun h' kp => ?_) (by simp only [List.size_toArray] <;> omega)
    have I1 : Inv X pins σ H { s with heap := h' } := I.kept (t' := s.toks) kp
    have e : (h'.push { cls := .type "tuple", data := .seq its.toArray }).get? h'.objs.size = some { cls := .type "tuple", data := .seq its.toArray } := Heap.get?_push_size _ rfl
    have I2 := I1.laid (t' := s.toks) (a := h'.objs.size) (h' := h'.push { cls := .type "tuple", data := .seq its.toArray }) (fun b o e => Heap.get?_push_of_some _ e) (Nat.le_refl _) (ObjOk.frzT hz r' e)
    exact ⟨.ref h'.objs.size, _, I2, rfl, q _ _ (I1.hok.fresh (Nat.le_refl _)) rfl⟩
  · obtain ⟨its, r', pl, hz⟩ := I.tuple hq
    exact call_tuple_same pl ⟨.ref p, H, I, rfl, q⟩
/-- t + u -/
def rCatZ (K : PySem.W.Frag) : R2 := fun x y H Q => ∃ a b xs ys, x = .ref a ∧ y = .ref b ∧ SqT K H a xs ∧ SqT K H b ys ∧ xs.length + ys.length ≤ sizeLine ∧
  (xs = [] → Q (.ref b) H) ∧ (xs ≠ [] → ys = [] → Q (.ref a) H) ∧ (xs ≠ [] → ys ≠ [] → NewT (xs ++ ys) H Q)
theorem op_catZ : OpR X (binaryOp .Add) (rCatZ X.K) := by
  intro pins s σ H x y v u Q I rx ry h
  obtain ⟨a, b, xs, ys, rfl, rfl, ha, hb, hz, q0, q1, q2⟩ := h
  cases rx
  cases ry
  obtain ⟨its, r1, p1, _⟩ := I.tuple ha
  obtain ⟨its2, r2, p2, _⟩ := I.tuple hb
  by_cases hx : xs = []
  · subst hx
    cases r1
    exact cat_tup0 p1 p2 ⟨.ref b, H, I, rfl, q0 rfl⟩
  · refine HT.cat_tup p1 p2 (fun z => hx (r1.nil_iff.mp z)) (fun z => ⟨.ref a, H, I, rfl, q1 hx (r2.nil_iff.mp z)⟩) (fun z => ?_) (by rw [← r1.length, ← r2.length]; exact hz)
    refine ⟨.ref s.heap.objs.size, _, I.laid (t' := s.toks) (fun b ob q => Heap.get?_push_of_some _ q) (Nat.le_refl _) (ObjOk.frzT (by rw [List.length_append]; exact hz) (r1.append r2) (Heap.get?_push_size _ rfl)), rfl, q2 hx (fun w => z (r2.nil_iff.mpr w)) _ _ (I.hok.fresh (Nat.le_refl _)) rfl⟩
/-- t[lo:hi]: the whole of it is t itself -/
def rSlZ (K : PySem.W.Frag) : V → Option Int → Option Int → Hp → VK → Prop := fun x lo hi H Q => ∃ a xs, x = .ref a ∧ SqT K H a xs ∧
  (HT.sIx xs.length 0 lo = 0 ∧ HT.sIx xs.length xs.length hi = xs.length → Q (.ref a) H) ∧ (¬ (HT.sIx xs.length 0 lo = 0 ∧ HT.sIx xs.length xs.length hi = xs.length) → NewT (cutV xs lo hi) H Q)
theorem sl_tupZ : SlR X (rSlZ X.K) := by
  intro pins s σ H x v vl vu lo hi sl Q I rx hs pl pu h
  obtain ⟨a, xs, rfl, hx, q1, q2⟩ := h
  cases rx
  obtain ⟨its, r, ht, hz⟩ := I.tuple hx
  have hlen : its.toArray.size = xs.length := by rw [List.size_toArray]; exact r.length.symm
  refine ⟨"tuple", _, PyProof.Rows.slot_tuple_getitem.lookup, ht.typeIs, ?_⟩
  by_cases hw : HT.sIx xs.length 0 lo = 0 ∧ HT.sIx xs.length xs.length hi = xs.length
  · exact getItem_tuple_whole ht hs pl pu (by rw [hlen]; exact hw) ⟨.ref a, H, I, rfl, q1 hw⟩
  · refine HT.getItem_tuple_cut ht hs pl pu (by rw [hlen]; exact hw) ?_ (by rw [hlen]; exact hz)
    rw [hlen]
    exact ⟨.ref s.heap.objs.size, _, I.laid (t' := s.toks) (fun b ob q => Heap.get?_push_of_some _ q) (Nat.le_refl _) (ObjOk.frzT (Nat.le_trans (cutV_length xs lo hi) hz) ((r.drop (HT.sIx xs.length 0 lo)).take (HT.sIx xs.length xs.length hi - HT.sIx xs.length 0 lo)) (Heap.get?_push_size _ rfl)), rfl, q2 hw _ _ (I.hok.fresh (Nat.le_refl _)) rfl⟩
/-- a method of a list or of a tuple that is only looked at -/
def tMZ (K : PySem.W.Frag) (rl rt : V → List V → Hp → VK → Prop) (to : TE) (t : TA) : TE := fun σ H Q => to σ H fun x H1 => ((∃ a xs, x = .ref a ∧ H1 a = some (.lst xs)) ∧ t σ H1 fun xs H2 => rl x xs H2 Q) ∨ ((∃ a xs, x = .ref a ∧ SqZ K H1 a xs) ∧ t σ H1 fun xs H2 => rt x xs H2 Q)
variable {o e : Expr} {to : TE} {name : Str} {apos cpos : Pos} {il it : String} {rl rt : V → List V → Hp → VK → Prop}
theorem pe_mZ (sl : Slot "list" name il) (tl : typeOf (.builtin il) = pure (.type "method_descriptor")) (st : Slot "tuple" name it) (tt : typeOf (.builtin it) = pure (.type "method_descriptor")) (hml : MtR X il rl) (hmt : MtR X it rt) (ho : PE X o to) (ha : PA X [e] t)
    (hbase : attributeBase o name X.env (eval o X.env) = eval o X.env)
    (hfew : ((backTo cpos (starEach [e] X.env)).all (fun x => !x.1) && (backToKw cpos (keywordEach [] X.env)).all (fun x => x.1.isSome)
      && decide ([e].length + ([] : List Keyword).length + (if ([] : List Keyword).isEmpty then 0 else 1) < 30)) = true)
    (hline : (apos.endLine == cpos.line) = true) (hs : starEach [e] X.env = (false, eval e X.env) :: starEach [] X.env) :
    PE X (.Call (.Attribute o name apos) [e] [] cpos) (tMZ X.K rl rt to t) := by
  refine ⟨fun pins s σ H Q I h => ?_⟩
  refine wpAny_Call_method_late hbase hfew hline rfl (thn (ho.run pins s σ H _ I h) fun v s1 ⟨x, H1, I1, r1, q1⟩ => ?_)
  rcases q1 with ⟨⟨a, xs, ex, hx⟩, q1⟩ | ⟨⟨a, xs, ex, hx⟩, q1⟩
  · subst ex
    cases r1
    obtain ⟨_, its, n, r, e1⟩ := I1.hok a _ hx
    refine ⟨"list", il, PySem.F.plainAttrs_list, sl, tl, ⟨_, e1, rfl⟩, fun b eb => by cases eb; exact ⟨_, e1, rfl⟩, ?_⟩
    have hA := ha.run cpos pins s1 σ H1 _ I1 q1
    rw [hs] at hA ⊢
    refine Calls.callWith_builtin (by rfl) (Calls.evalArgs_plain ?_)
    exact thn hA fun us s2 ⟨vs, H2, I2, r2, q2⟩ => hml pins s2 σ H2 (.ref a) vs (.ref a) us Q I2 rfl r2 q2
  · subst ex
    cases r1
    obtain ⟨ob, e1, ec, ed⟩ : ∃ ob, s1.heap.get? a = some ob ∧ ob.cls = .type "tuple" ∧ ob.dict = none := by
      rcases hx with ⟨ob, hx, d⟩ | ⟨ob, its, n, hk, hc, d, _⟩
      · obtain ⟨e1, _, its, r, o2, e2, c2, _⟩ := I1.hok a _ hx
        rw [e1] at e2
        cases e2
        exact ⟨ob, e1, c2, d⟩
      · exact ⟨ob, I1.kIn a ob hk, hc, d⟩
    refine ⟨"tuple", it, PySem.F.plainAttrs_tuple, st, tt, ⟨_, e1, ec⟩, fun b eb => by cases eb; exact ⟨_, e1, ed⟩, ?_⟩
    have hA := ha.run cpos pins s1 σ H1 _ I1 q1
    rw [hs] at hA ⊢
    refine Calls.callWith_builtin (by rfl) (Calls.evalArgs_plain ?_)
    exact thn hA fun us s2 ⟨vs, H2, I2, r2, q2⟩ => hmt pins s2 σ H2 (.ref a) vs (.ref a) us Q I2 rfl r2 q2
end
end Dn
set_option Elab.async false
set_option linter.all false
set_option maxRecDepth 100000
set_option maxHeartbeats 4000000
/-! Dn 1: deep values, what represents them, the canonical readings. -/
namespace Dn
open PySem PySem.Spec PyProof.Rows L2

/-- a deep value -/
inductive D where
  | non | bl (b : Bool) | int (i : Int) | str (x : Str)
  | lst (xs : List D) | tup (xs : List D)
  /-- a pair of enumerate or zip, to be taken apart -/
  | wtup (xs : List D)
  | ins (c : String) (fs : List (String × D))
  | fn (f : String)
  | pen
  deriving Inhabited

/-- facts of a class whose instances are read -/
structure InsFact (K : PySem.W.Frag) (c : String) (fs : List String) : Prop where
  cl : Cls K (He.ga K c)
  na : ∀ f ∈ fs, NoAttr K (He.ga K c) f
  ha : PySem.W.findIn K (.ref (He.ga K c)) "__class__" = some (some (.builtin "object.__class__"))
  hn : PySem.W.specialIn K (.builtin "object.__class__") "__get__" = some (some (.builtin "getset_descriptor.__get__"))
  ht : PySem.W.takesIn K (.builtin "object.__class__") = some true
  hm : PySem.W.mroIn K (He.ga K c) (.type "object") = some true

mutual
def Rep (K : PySem.W.Frag) (P : Addr) (F : Hp) : D → V → Prop
  | .non, v => v = .non
  | .bl b, v => v = .bl b
  | .int i, v => v = .int i
  | .str x, v => v = .str x
  | .lst xs, v => ∃ a vs, v = .ref a ∧ F a = some (.lst vs) ∧ vs.length ≤ sizeLine ∧ Reps K P F xs vs
  | .tup xs, v => ∃ a vs, v = .ref a ∧ SqZ K F a vs ∧ vs.length ≤ sizeLine ∧ Reps K P F xs vs
  | .wtup xs, v => ∃ a vs, v = .ref a ∧ F a = some (.tup vs) ∧ vs.length ≤ sizeLine ∧ Reps K P F xs vs
  | .ins c fs, v => ∃ a dx gs, v = .ref a ∧ F a = some (.ins (He.ga K c) dx gs) ∧ F dx = some (.own a) ∧ InsFact K c (fs.map (·.1)) ∧ RepF K P F fs gs
  | .fn f, v => v = .ref (He.ga K f)
  | .pen, v => v = .ref P
def Reps (K : PySem.W.Frag) (P : Addr) (F : Hp) : List D → List V → Prop
  | [], vs => vs = []
  | d :: ds, vs => ∃ v r, vs = v :: r ∧ Rep K P F d v ∧ Reps K P F ds r
def RepF (K : PySem.W.Frag) (P : Addr) (F : Hp) : List (String × D) → List (Str × V) → Prop
  | [], gs => gs = []
  | (n, d) :: fs, gs => ∃ v r, gs = ((n : Str), v) :: r ∧ Rep K P F d v ∧ RepF K P F fs r
end

def Sub (F H : Hp) : Prop := ∀ a o, F a = some o → H a = some o
theorem Sub.refl {F : Hp} : Sub F F := fun _ _ e => e
theorem Sub.trans {F G H : Hp} (h : Sub F G) (k : Sub G H) : Sub F H := fun a o e => k a o (h a o e)
theorem Sub.rd {F H : Hp} (h : Sub F H) {a : Addr} {u : HO} (r : Rd F a u) : Rd H a u := by
  rcases r with r | ⟨o, r⟩
  · exact .inl (h _ _ r)
  · exact .inr ⟨o, h _ _ r⟩
theorem Sub.sqL {K : PySem.W.Frag} {F H : Hp} (h : Sub F H) {a : Addr} {xs : List V} (r : SqL K F a xs) : SqL K H a xs := by
  rcases r with r | r
  · exact .inl (h.rd r)
  · exact .inr r
theorem Sub.sqZ {K : PySem.W.Frag} {F H : Hp} (h : Sub F H) {a : Addr} {xs : List V} (r : SqZ K F a xs) : SqZ K H a xs := by
  rcases r with ⟨ob, r, d⟩ | r
  · exact .inl ⟨ob, h _ _ r, d⟩
  · exact .inr r
theorem Sub.sqT {K : PySem.W.Frag} {F H : Hp} (h : Sub F H) {a : Addr} {xs : List V} (r : SqT K F a xs) : SqT K H a xs := by
  rcases r with r | r
  · exact .inl (h.rd r)
  · exact .inr r

section
variable {K : PySem.W.Frag} {P : Addr} {F F' : Hp}
mutual
theorem Rep.mono (s : Sub F F') : ∀ {d : D} {v : V}, Rep K P F d v → Rep K P F' d v
  | .non, _, h => h
  | .bl _, _, h => h
  | .int _, _, h => h
  | .str _, _, h => h
  | .lst xs, v, h => by
    unfold Rep at h ⊢
    obtain ⟨a, vs, e, q, z, r⟩ := h
    exact ⟨a, vs, e, s _ _ q, z, Reps.mono s r⟩
  | .tup xs, v, h => by
    unfold Rep at h ⊢
    obtain ⟨a, vs, e, q, z, r⟩ := h
    exact ⟨a, vs, e, s.sqZ q, z, Reps.mono s r⟩
  | .wtup xs, v, h => by
    unfold Rep at h ⊢
    obtain ⟨a, vs, e, q, z, r⟩ := h
    exact ⟨a, vs, e, s _ _ q, z, Reps.mono s r⟩
  | .ins c fs, v, h => by
    unfold Rep at h ⊢
    obtain ⟨a, dx, gs, e, q, o, z, r⟩ := h
    exact ⟨a, dx, gs, e, s _ _ q, s _ _ o, z, RepF.mono s r⟩
  | .fn _, _, h => h
  | .pen, _, h => h
theorem Reps.mono (s : Sub F F') : ∀ {ds : List D} {vs : List V}, Reps K P F ds vs → Reps K P F' ds vs
  | [], _, h => h
  | d :: ds, vs, h => by
    unfold Reps at h ⊢
    obtain ⟨v, r, e, q, t⟩ := h
    exact ⟨v, r, e, Rep.mono s q, Reps.mono s t⟩
theorem RepF.mono (s : Sub F F') : ∀ {fs : List (String × D)} {gs : List (Str × V)}, RepF K P F fs gs → RepF K P F' fs gs
  | [], _, h => h
  | (n, d) :: fs, gs, h => by
    unfold RepF at h ⊢
    obtain ⟨v, r, e, q, t⟩ := h
    exact ⟨v, r, e, Rep.mono s q, RepF.mono s t⟩
end
theorem Reps.length : ∀ {ds : List D} {vs : List V}, Reps K P F ds vs → ds.length = vs.length
  | [], _, h => by unfold Reps at h; subst h; rfl
  | d :: ds, vs, h => by
    unfold Reps at h
    obtain ⟨v, r, e, _, t⟩ := h
    subst e
    simp [Reps.length t]
theorem Reps.get : ∀ {ds : List D} {vs : List V} {i : Nat} {d : D}, Reps K P F ds vs → ds[i]? = some d → ∃ v, vs[i]? = some v ∧ Rep K P F d v
  | [], _, _, _, _, e => by simp at e
  | x :: ds, vs, i, d, h, e => by
    unfold Reps at h
    obtain ⟨v, r, rfl, q, t⟩ := h
    cases i with
    | zero =>
      simp at e
      subst e
      exact ⟨v, rfl, q⟩
    | succ i =>
      obtain ⟨u, h1, h2⟩ := Reps.get (i := i) (d := d) t (by simpa using e)
      exact ⟨u, by simpa using h1, h2⟩
theorem Reps.nil_iff {vs : List V} : Reps K P F [] vs ↔ vs = [] := by unfold Reps; exact Iff.rfl
theorem Reps.cons {d : D} {ds : List D} {v : V} {vs : List V} (h : Rep K P F d v) (t : Reps K P F ds vs) : Reps K P F (d :: ds) (v :: vs) := by
  unfold Reps
  exact ⟨v, vs, rfl, h, t⟩
theorem Reps.nil : Reps K P F [] [] := by unfold Reps; rfl
theorem Reps.append : ∀ {ds es : List D} {vs us : List V}, Reps K P F ds vs → Reps K P F es us → Reps K P F (ds ++ es) (vs ++ us)
  | [], _, _, _, h, k => by
    unfold Reps at h
    subst h
    simpa using k
  | d :: ds, es, vs, us, h, k => by
    unfold Reps at h
    obtain ⟨v, r, rfl, q, t⟩ := h
    exact Reps.cons q (Reps.append t k)
theorem Reps.take : ∀ {ds : List D} {vs : List V} (n : Nat), Reps K P F ds vs → Reps K P F (ds.take n) (vs.take n)
  | _, _, 0, _ => by simpa using Reps.nil
  | [], vs, n + 1, h => by
    unfold Reps at h
    subst h
    simpa using Reps.nil
  | d :: ds, vs, n + 1, h => by
    unfold Reps at h
    obtain ⟨v, r, rfl, q, t⟩ := h
    exact Reps.cons q (Reps.take n t)
theorem Reps.drop : ∀ {ds : List D} {vs : List V} (n : Nat), Reps K P F ds vs → Reps K P F (ds.drop n) (vs.drop n)
  | _, _, 0, h => by simpa using h
  | [], vs, n + 1, h => by
    unfold Reps at h
    subst h
    simpa using Reps.nil
  | d :: ds, vs, n + 1, h => by
    unfold Reps at h
    obtain ⟨v, r, rfl, q, t⟩ := h
    simpa using Reps.drop n t
theorem Reps.set {d : D} {v : V} (q : Rep K P F d v) : ∀ {ds : List D} {vs : List V} (n : Nat), Reps K P F ds vs → Reps K P F (ds.set n d) (vs.set n v)
  | [], vs, n, h => by
    unfold Reps at h
    subst h
    simpa using Reps.nil
  | x :: ds, vs, 0, h => by
    unfold Reps at h
    obtain ⟨u, r, rfl, _, t⟩ := h
    exact Reps.cons q t
  | x :: ds, vs, n + 1, h => by
    unfold Reps at h
    obtain ⟨u, r, rfl, p, t⟩ := h
    exact Reps.cons p (Reps.set q n t)
theorem Reps.eraseIdx : ∀ {ds : List D} {vs : List V} (n : Nat), Reps K P F ds vs → Reps K P F (ds.eraseIdx n) (vs.eraseIdx n)
  | [], vs, n, h => by
    unfold Reps at h
    subst h
    simpa using Reps.nil
  | x :: ds, vs, 0, h => by
    unfold Reps at h
    obtain ⟨u, r, rfl, _, t⟩ := h
    simpa using t
  | x :: ds, vs, n + 1, h => by
    unfold Reps at h
    obtain ⟨u, r, rfl, p, t⟩ := h
    simpa using Reps.cons p (Reps.eraseIdx n t)
theorem Reps.inv {d : D} {ds : List D} {vs : List V} (h : Reps K P F (d :: ds) vs) : ∃ v r, vs = v :: r ∧ Rep K P F d v ∧ Reps K P F ds r := by
  unfold Reps at h
  exact h
theorem Reps.ints : ∀ {ns : List Int}, Reps K P F (ns.map D.int) (ns.map V.int)
  | [] => Reps.nil
  | n :: ns => Reps.cons (by unfold Rep; rfl) Reps.ints
theorem Reps.ints_inv : ∀ {ns : List Int} {vs : List V}, Reps K P F (ns.map D.int) vs → vs = ns.map V.int
  | [], vs, h => by
    unfold Reps at h
    exact h
  | n :: ns, vs, h => by
    obtain ⟨v, r, rfl, q, t⟩ := Reps.inv h
    unfold Rep at q
    subst q
    rw [Reps.ints_inv t]
    rfl
end

/-- the frozen part F of the heap H grows (F', H'); what stood in H stands, but what is at P (the pen) -/
structure Step (P : Addr) (F H F' H' : Hp) : Prop where
  ff : Sub F F'
  hh : ∀ a o, a ≠ P → H a = some o → H' a = some o
  nw : ∀ a o, F' a = some o → F a = some o ∨ H a = none
  fh : Sub F' H'
/-- the same, and the pen stands too -/
structure Ext (F H F' H' : Hp) : Prop where
  ff : Sub F F'
  hh : Sub H H'
  nw : ∀ a o, F' a = some o → F a = some o ∨ H a = none
  fh : Sub F' H'
theorem Ext.step {F H F' H' : Hp} (e : Ext F H F' H') (P : Addr) : Step P F H F' H' := ⟨e.ff, fun a o _ q => e.hh a o q, e.nw, e.fh⟩
theorem Ext.refl {F H : Hp} (s : Sub F H) : Ext F H F H := ⟨Sub.refl, Sub.refl, fun _ _ q => .inl q, s⟩
theorem Step.refl {P : Addr} {F H : Hp} (s : Sub F H) : Step P F H F H := (Ext.refl s).step P
theorem Step.trans {P : Addr} {F0 G0 F H F' H' : Hp} (a : Step P F0 G0 F H) (b : Step P F H F' H') (hp : H P ≠ none) : Step P F0 G0 F' H' := by
  refine ⟨a.ff.trans b.ff, fun c o n q => b.hh c o n (a.hh c o n q), fun c o q => ?_, b.fh⟩
  rcases b.nw c o q with q | q
  · exact a.nw c o q
  · refine .inr ?_
    cases e : G0 c with
    | none => rfl
    | some o' =>
      by_cases hc : c = P
      · subst hc
        exact absurd q hp
      · have := a.hh c o' hc e
        rw [q] at this
        cases this
theorem Ext.trans {F0 G0 F H F' H' : Hp} (a : Ext F0 G0 F H) (b : Ext F H F' H') : Ext F0 G0 F' H' := by
  refine ⟨a.ff.trans b.ff, a.hh.trans b.hh, fun c o q => ?_, b.fh⟩
  rcases b.nw c o q with q | q
  · exact a.nw c o q
  · refine .inr ?_
    cases e : G0 c with
    | none => rfl
    | some o' =>
      have := a.hh c o' e
      rw [q] at this
      cases this

/-- a new frozen object -/
theorem Ext.new {F H : Hp} {a : Addr} {o : HO} (s : Sub F H) (h : H a = none) : Ext F H (upd F a o) (upd H a o) := by
  have fa : F a = none := by
    cases e : F a with
    | none => rfl
    | some u =>
      have := s _ _ e
      rw [h] at this
      cases this
  refine ⟨fun b u e => ?_, fun b u e => ?_, fun b u e => ?_, fun b u e => ?_⟩
  · rw [upd_ne (ne_of_none e fa)]; exact e
  · rw [upd_ne (ne_of_none e h)]; exact e
  · by_cases hb : b = a
    · subst hb
      exact .inr h
    · rw [upd_ne hb] at e
      exact .inl e
  · by_cases hb : b = a
    · subst hb
      rw [upd_same] at e ⊢
      exact e
    · rw [upd_ne hb] at e ⊢
      exact s _ _ e
/-- a new object that isn't frozen -/
theorem Ext.loose {F H : Hp} {a : Addr} {o : HO} (s : Sub F H) (h : H a = none) : Ext F H F (upd H a o) := by
  refine ⟨Sub.refl, fun b u e => ?_, fun b u e => .inl e, fun b u e => ?_⟩
  · rw [upd_ne (ne_of_none e h)]; exact e
  · rw [upd_ne (ne_of_none (s _ _ e) h)]; exact s _ _ e

/-- the pen -/
structure Pen where
  cells : List Int
  at_ : Int
  digits : Int
  count : Int
  fold : Int
def penKvs (L : Addr) (p : Pen) : List (Key × V) :=
  [(Sum.inr ("cells" : Str), .ref L), (Sum.inr ("at" : Str), .int p.at_), (Sum.inr ("digits" : Str), .int p.digits), (Sum.inr ("count" : Str), .int p.count), (Sum.inr ("fold" : Str), .int p.fold)]
structure PenAt (K : PySem.W.Frag) (P : Addr) (F H : Hp) (p : Pen) : Prop where
  at_ : ∃ L, H P = some (.dK (penKvs L p)) ∧ F L = some (.lst (p.cells.map V.int)) ∧ p.cells.length ≤ sizeLine
  no : F P = none
theorem PenAt.thr {K : PySem.W.Frag} {P : Addr} {F H : Hp} {p : Pen} (h : PenAt K P F H p) : H P ≠ none := by
  obtain ⟨L, e, _⟩ := h.at_
  rw [e]
  exact fun z => nomatch z
theorem PenAt.ext {K : PySem.W.Frag} {P : Addr} {F H F' H' : Hp} {p : Pen} (h : PenAt K P F H p) (e : Ext F H F' H') : PenAt K P F' H' p := by
  obtain ⟨L, q, c, z⟩ := h.at_
  refine ⟨⟨L, e.hh _ _ q, e.ff _ _ c, z⟩, ?_⟩
  cases r : F' P with
  | none => rfl
  | some o =>
    rcases e.nw _ _ r with r | r
    · rw [h.no] at r
      cases r
    · exact absurd r h.thr

/-- what a local name holds: nothing known; a frozen value; a list of one's own; an instance that is being made -/
inductive Cell where
  | no | sh (d : D) | own (xs : List D) | obj (c : String) (fs : List (String × D))
  deriving Inhabited
abbrev Env := List Cell
/-- what stands at the entry of a def and is kept; the instance that an __init__ makes, its dict -/
structure Gd where
  g : Hp
  me : Addr := 0
  dx : Addr := 0
instance : CoeFun Gd (fun _ => Hp) := ⟨Gd.g⟩
def CellOk (K : PySem.W.Frag) (P : Addr) (F : Hp) (G0 : Gd) (H : Hp) : Cell → Option V → Prop
  | .no, _ => True
  | .sh d, ov => ∃ v, ov = some v ∧ Rep K P F d v
  | .own xs, ov => ∃ a vs, ov = some (.ref a) ∧ H a = some (.lst vs) ∧ vs.length ≤ sizeLine ∧ Reps K P F xs vs ∧ F a = none ∧ G0 a = none ∧ a ≠ P
  | .obj c fs, ov => ∃ a dx gs, ov = some (.ref a) ∧ H a = some (.ins (He.ga K c) dx gs) ∧ H dx = some (.own a) ∧ RepF K P F fs gs ∧ F a = none ∧ F dx = none ∧ G0 a = none ∧ G0 dx = none ∧ a ≠ P ∧ dx ≠ P ∧ dx ≠ a ∧ a = G0.me ∧ dx = G0.dx
def Cell.isOwn : Cell → Bool
  | .own _ => true
  | _ => false
structure Rel (K : PySem.W.Frag) (P : Addr) (F0 : Hp) (G0 : Gd) (F H : Hp) (ρ : Env) (σ : L2.St) (p : Pen) : Prop where
  step : Step P F0 G0.g F H
  pen : PenAt K P F H p
  len : ρ.length = σ.length
  cell : ∀ (i : Nat) (c : Cell), ρ[i]? = some c → ∃ ov, σ[i]? = some ov ∧ CellOk K P F G0 H c ov
  dis : ∀ (i j : Nat) (c e : Cell), i ≠ j → ρ[i]? = some c → ρ[j]? = some e → c.isOwn = true → e.isOwn = true → σ[i]? ≠ σ[j]?

section
variable {K : PySem.W.Frag} {P : Addr} {F0 : Hp} {G0 : Gd} {F H F' H' : Hp} {ρ : Env} {σ : L2.St} {p p' : Pen}
theorem CellOk.step {c : Cell} {ov : Option V} (h : CellOk K P F G0 H c ov) (s : Step P F H F' H') : CellOk K P F' G0 H' c ov := by
  have nf : ∀ {a : Addr} {o : HO}, H a = some o → F a = none → F' a = none := fun {a o} q n => by
    cases r : F' a with
    | none => rfl
    | some u =>
      rcases s.nw _ _ r with r | r
      · rw [n] at r
        cases r
      · rw [q] at r
        cases r
  cases c with
  | no => trivial
  | sh d =>
    obtain ⟨v, e, r⟩ := h
    exact ⟨v, e, r.mono s.ff⟩
  | own xs =>
    obtain ⟨a, vs, e, q, z, r, n, g, np⟩ := h
    exact ⟨a, vs, e, s.hh _ _ np q, z, r.mono s.ff, nf q n, g, np⟩
  | obj c fs =>
    obtain ⟨a, dx, gs, e, q, o, r, n1, n2, g1, g2, p1, p2, ne⟩ := h
    exact ⟨a, dx, gs, e, s.hh _ _ p1 q, s.hh _ _ p2 o, r.mono s.ff, nf q n1, nf o n2, g1, g2, p1, p2, ne⟩
theorem Rel.go (R : Rel K P F0 G0 F H ρ σ p) (s : Step P F H F' H') (q : PenAt K P F' H' p') : Rel K P F0 G0 F' H' ρ σ p' :=
  ⟨R.step.trans s R.pen.thr, q, R.len, fun i c e => let ⟨ov, e', h⟩ := R.cell i c e; ⟨ov, e', h.step s⟩, R.dis⟩
theorem Rel.sub (R : Rel K P F0 G0 F H ρ σ p) : Sub F H := R.step.fh
end

/-- an expression's meaning; a list's; a test's; arguments' -/
abbrev DE := Env → Pen → Option (D × Pen)
abbrev DL := Env → Pen → Option (List D × Pen)
abbrev DT := Env → Pen → Option (Bool × Pen)

/-- a value that is only looked at: a list may be one's own -/
def Rep1 (K : PySem.W.Frag) (P : Addr) (F H : Hp) : D → V → Prop
  | .lst xs, v => ∃ a vs, v = .ref a ∧ H a = some (.lst vs) ∧ vs.length ≤ sizeLine ∧ Reps K P F xs vs
  | d, v => Rep K P F d v
theorem Rep.one {K : PySem.W.Frag} {P : Addr} {F H : Hp} {d : D} {v : V} (s : Sub F H) (h : Rep K P F d v) : Rep1 K P F H d v := by
  cases d with
  | lst xs =>
    unfold Rep at h
    obtain ⟨a, vs, e, q, z, r⟩ := h
    exact ⟨a, vs, e, s _ _ q, z, r⟩
  | _ => exact h
theorem Step.sqL {K : PySem.W.Frag} {P : Addr} {F H F' H' : Hp} {a : Addr} {vs : List V} (s : Step P F H F' H') (hp : ∃ kvs, H P = some (.dK kvs)) (h : SqL K H a vs) : SqL K H' a vs := by
  obtain ⟨kvs, hp⟩ := hp
  rcases h with (h | ⟨o, h⟩) | h
  · refine .inl (.inl (s.hh _ _ ?_ h))
    rintro rfl
    rw [hp] at h
    cases h
  · refine .inl (.inr ⟨o, s.hh _ _ ?_ h⟩)
    rintro rfl
    rw [hp] at h
    cases h
  · exact .inr h
theorem Rep1.go {K : PySem.W.Frag} {P : Addr} {F H F' H' : Hp} {d : D} {v : V} (h : Rep1 K P F H d v) (s : Step P F H F' H') (hp : ∃ kvs, H P = some (.dK kvs)) : Rep1 K P F' H' d v := by
  cases d with
  | lst xs =>
    obtain ⟨a, vs, e, q, z, r⟩ := h
    refine ⟨a, vs, e, s.hh _ _ ?_ q, z, r.mono s.ff⟩
    rintro rfl
    obtain ⟨kvs, hp⟩ := hp
    rw [hp] at q
    cases q
  | _ => exact Rep.mono s.ff h
def Reps1 (K : PySem.W.Frag) (P : Addr) (F H : Hp) : List D → List V → Prop
  | [], vs => vs = []
  | d :: ds, vs => ∃ v r, vs = v :: r ∧ Rep1 K P F H d v ∧ Reps1 K P F H ds r
theorem PenAt.dk {K : PySem.W.Frag} {P : Addr} {F H : Hp} {p : Pen} (h : PenAt K P F H p) : ∃ kvs, H P = some (.dK kvs) := by
  obtain ⟨L, e, _⟩ := h.at_
  exact ⟨_, e⟩

/-- the canonical reading of an expression: full, looked at, a new list, a test; of arguments -/
def cE (K : PySem.W.Frag) (f : DE) : TE := fun σ H Q => ∃ P F0 G0 F ρ p d p', Rel K P F0 G0 F H ρ σ p ∧ f ρ p = some (d, p') ∧
  ∀ v F' H', Step P F H F' H' → PenAt K P F' H' p' → Rep K P F' d v → Q v H'
def cB (K : PySem.W.Frag) (f : DE) : TE := fun σ H Q => ∃ P F0 G0 F ρ p d p', Rel K P F0 G0 F H ρ σ p ∧ f ρ p = some (d, p') ∧
  ∀ v F' H', Step P F H F' H' → PenAt K P F' H' p' → Rep1 K P F' H' d v → Q v H'
def cF (K : PySem.W.Frag) (f : DL) : TE := fun σ H Q => ∃ P F0 G0 F ρ p ds p', Rel K P F0 G0 F H ρ σ p ∧ f ρ p = some (ds, p') ∧
  ∀ a vs F' H', Step P F H F' H' → PenAt K P F' H' p' → H a = none → F' a = none → H' a = some (.lst vs) → vs.length ≤ sizeLine → Reps K P F' ds vs → Q (.ref a) H'
def cT (K : PySem.W.Frag) (f : DT) : TT := fun σ H Q => ∃ P F0 G0 F ρ p b p', Rel K P F0 G0 F H ρ σ p ∧ f ρ p = some (b, p') ∧
  ∀ F' H', Step P F H F' H' → PenAt K P F' H' p' → Q b H'
def cA (K : PySem.W.Frag) (f : DL) : TA := fun σ H Q => ∃ P F0 G0 F ρ p ds p', Rel K P F0 G0 F H ρ σ p ∧ f ρ p = some (ds, p') ∧
  ∀ vs F' H', Step P F H F' H' → PenAt K P F' H' p' → Reps K P F' ds vs → Q vs H'
def cAB (K : PySem.W.Frag) (f : DL) : TA := fun σ H Q => ∃ P F0 G0 F ρ p ds p', Rel K P F0 G0 F H ρ σ p ∧ f ρ p = some (ds, p') ∧
  ∀ vs F' H', Step P F H F' H' → PenAt K P F' H' p' → Reps1 K P F' H' ds vs → Q vs H'

theorem PE.imp {X : Cx} {e : Expr} {t t' : TE} (h : PE X e t) (i : ∀ σ H Q, t' σ H Q → t σ H Q) : PE X e t' := ⟨fun pins s σ H Q I q => h.run pins s σ H Q I (i σ H Q q)⟩
theorem PT.imp {X : Cx} {e : Expr} {t t' : TT} (h : PT X e t) (i : ∀ σ H Q, t' σ H Q → t σ H Q) : PT X e t' := ⟨fun pins s σ H Q I q => h.run pins s σ H Q I (i σ H Q q)⟩
theorem PA.imp {X : Cx} {e : List Expr} {t t' : TA} (h : PA X e t) (i : ∀ σ H Q, t' σ H Q → t σ H Q) : PA X e t' := ⟨fun pos pins s σ H Q I q => h.run pos pins s σ H Q I (i σ H Q q)⟩
theorem PS.imp {X : Cx} {e : Stmt} {t t' : TS} (h : PS X e t) (i : ∀ D σ H, t' D σ H → t D σ H) : PS X e t' := ⟨fun pins s σ H D I q => h.run pins s σ H D I (i D σ H q)⟩

theorem look_of_full {X : Cx} {e : Expr} {f : DE} (h : PE X e (cE X.K f)) : PE X e (cB X.K f) := PE.imp h fun σ H Q ⟨P, F0, G0, F, ρ, p, d, p', R, e, k⟩ =>
  ⟨P, F0, G0, F, ρ, p, d, p', R, e, fun v F' H' s q r => k v F' H' s q (r.one s.fh)⟩
/-- a new list, as a value -/
def eLst (f : DL) : DE := fun ρ p => match f ρ p with
  | some (xs, p') => some (.lst xs, p')
  | none => none
theorem full_of_new {X : Cx} {e : Expr} {f : DL} (h : PE X e (cF X.K f)) : PE X e (cE X.K (eLst f)) := PE.imp h fun σ H Q ⟨P, F0, G0, F, ρ, p, d, p', R, e, k⟩ => by
  unfold eLst at e
  cases q : f ρ p with
  | none =>
    rw [q] at e
    cases e
  | some z =>
    obtain ⟨xs, p2⟩ := z
    rw [q] at e
    simp only [Option.some.injEq, Prod.mk.injEq] at e
    obtain ⟨e1, e2⟩ := e
    subst e1 e2
    refine ⟨P, F0, G0, F, ρ, p, xs, p2, R, q, fun a vs F' H' s pa ha fa hl z r => ?_⟩
    have E : Sub F' (upd F' a (.lst vs)) := fun b u e => by
      rw [upd_ne (ne_of_none e fa)]
      exact e
    have aP : a ≠ P := fun q => by
      subst q
      exact R.pen.thr ha
    refine k (.ref a) (upd F' a (.lst vs)) H' ⟨s.ff.trans E, s.hh, fun b u e => ?_, fun b u e => ?_⟩ ⟨?_, ?_⟩ ?_
    · by_cases hb : b = a
      · subst hb
        exact .inr ha
      · rw [upd_ne hb] at e
        exact s.nw _ _ e
    · by_cases hb : b = a
      · subst hb
        rw [upd_same] at e
        rw [← e]
        exact hl
      · rw [upd_ne hb] at e
        exact s.fh _ _ e
    · obtain ⟨L, c1, c2, c3⟩ := pa.at_
      exact ⟨L, c1, E _ _ c2, c3⟩
    · rw [upd_ne (Ne.symm aP)]
      exact pa.no
    · unfold Rep
      exact ⟨a, vs, rfl, upd_same, z, r.mono E⟩
end Dn
set_option Elab.async false
set_option linter.all false
set_option maxRecDepth 100000
set_option maxHeartbeats 4000000
/-! Dn 2: operators, comparisons, tests. -/
namespace Dn
open PySem PySem.Spec PyProof.Rows L2

/-! ### data -/
mutual
def D.py : D → PyData
  | .non => .none
  | .bl b => .bool b
  | .int i => .int i
  | .str x => .str x
  | .lst xs => .list (pys xs)
  | .tup xs => .tuple (pys xs)
  | .wtup _ => .none
  | .ins _ _ => .none
  | .fn _ => .none
  | .pen => .none
def pys : List D → List PyData
  | [] => []
  | x :: xs => x.py :: pys xs
end
/-- plain data of at most so many levels -/
def D.dat : Nat → D → Bool
  | _, .non => true
  | _, .bl _ => true
  | _, .int _ => true
  | _, .str x => PyData.strOk x
  | n + 1, .lst xs => xs.all (D.dat n)
  | n + 1, .tup xs => xs.all (D.dat n)
  | _, _ => false
theorem pys_eq : ∀ xs : List D, pys xs = xs.map D.py
  | [] => rfl
  | x :: xs => by rw [pys, pys_eq xs]; rfl
theorem canLayAll0_of : ∀ {xs : List PyData}, (∀ x ∈ xs, x.canLay0 = true) → PyData.canLayAll0 xs = true
  | [], _ => rfl
  | x :: xs, h => by
    unfold PyData.canLayAll0
    rw [h x List.mem_cons_self, canLayAll0_of fun y hy => h y (List.mem_cons_of_mem _ hy)]
    rfl
theorem depthAll_le {n : Nat} : ∀ {xs : List PyData}, (∀ x ∈ xs, x.depth ≤ n) → PyData.depthAll xs ≤ n
  | [], _ => by simp [PyData.depthAll]
  | x :: xs, h => by
    unfold PyData.depthAll
    have h1 := h x List.mem_cons_self
    have h2 := depthAll_le (xs := xs) fun y hy => h y (List.mem_cons_of_mem _ hy)
    omega
theorem dat_lay : ∀ (n : Nat) (d : D), d.dat n = true → d.py.canLay0 = true ∧ d.py.depth ≤ n
  | _, .non, _ => by simp [D.py, PyData.canLay0, PyData.depth]
  | _, .bl _, _ => by simp [D.py, PyData.canLay0, PyData.depth]
  | _, .int _, _ => by simp [D.py, PyData.canLay0, PyData.depth]
  | n, .str x, h => by
    have h' : PyData.strOk x = true := by cases n <;> exact h
    simp [D.py, PyData.canLay0, PyData.depth, h']
  | 0, .lst xs, h => by simp [D.dat] at h
  | 0, .tup xs, h => by simp [D.dat] at h
  | n + 1, .lst xs, h => by
    unfold D.dat at h
    have h1 : ∀ x ∈ xs.map D.py, x.canLay0 = true ∧ x.depth ≤ n := fun x hx => by
      obtain ⟨y, hy, rfl⟩ := List.mem_map.mp hx
      exact dat_lay n y (List.all_eq_true.mp h y hy)
    have h3 := depthAll_le fun x hx => (h1 x hx).2
    simp only [D.py, PyData.canLay0, PyData.depth, pys_eq]
    exact ⟨canLayAll0_of fun x hx => (h1 x hx).1, by omega⟩
  | n + 1, .tup xs, h => by
    unfold D.dat at h
    have h1 : ∀ x ∈ xs.map D.py, x.canLay0 = true ∧ x.depth ≤ n := fun x hx => by
      obtain ⟨y, hy, rfl⟩ := List.mem_map.mp hx
      exact dat_lay n y (List.all_eq_true.mp h y hy)
    have h3 := depthAll_le fun x hx => (h1 x hx).2
    simp only [D.py, PyData.canLay0, PyData.depth, pys_eq]
    exact ⟨canLayAll0_of fun x hx => (h1 x hx).1, by omega⟩
  | _, .wtup _, h => by simp [D.dat] at h
  | _, .ins _ _, h => by simp [D.dat] at h
  | _, .fn _, h => by simp [D.dat] at h
  | _, .pen, h => by simp [D.dat] at h
theorem dat_shaped {d : D} (h : d.dat 16 = true) : SeqAt.shaped d.py = true := by
  obtain ⟨h1, h2⟩ := dat_lay 16 d h
  unfold SeqAt.shaped
  rw [h1, decide_eq_true (show d.py.depth ≤ 64 by omega)]
  rfl
section
variable {K : PySem.W.Frag} {P : Addr} {F H : Hp}
mutual
theorem Rep.dp : ∀ (n : Nat) (d : D) (v : V), Rep K P F d v → d.dat n = true → Dp K F v d.py
  | _, .non, v, h, _ => by unfold Rep at h; subst h; exact .non
  | _, .bl _, v, h, _ => by unfold Rep at h; subst h; exact .bl _
  | _, .int _, v, h, _ => by unfold Rep at h; subst h; exact .int _
  | _, .str _, v, h, _ => by unfold Rep at h; subst h; exact .str _
  | 0, .lst xs, _, _, e => by simp [D.dat] at e
  | 0, .tup xs, _, _, e => by simp [D.dat] at e
  | n + 1, .lst xs, v, h, e => by
    unfold Rep at h
    unfold D.dat at e
    obtain ⟨a, vs, rfl, q, _, r⟩ := h
    exact .lst (SqL.of q) (Reps.dp n xs vs r e)
  | n + 1, .tup xs, v, h, e => by
    unfold Rep at h
    unfold D.dat at e
    obtain ⟨a, vs, rfl, q, _, r⟩ := h
    exact .tup q.t (Reps.dp n xs vs r e)
  | _, .wtup _, _, _, e => by simp [D.dat] at e
  | _, .ins _ _, _, _, e => by simp [D.dat] at e
  | _, .fn _, _, _, e => by simp [D.dat] at e
  | _, .pen, _, _, e => by simp [D.dat] at e
theorem Reps.dp : ∀ (n : Nat) (ds : List D) (vs : List V), Reps K P F ds vs → ds.all (D.dat n) = true → DpAll K F vs (pys ds)
  | _, [], vs, h, _ => by unfold Reps at h; subst h; exact .nil
  | n, d :: ds, vs, h, e => by
    unfold Reps at h
    obtain ⟨v, r, rfl, q, t⟩ := h
    rw [List.all_cons, Bool.and_eq_true] at e
    exact .cons (Rep.dp n d v q e.1) (Reps.dp n ds r t e.2)
end
mutual
theorem Dp.sub {F H : Hp} (s : Sub F H) : ∀ {v : V} {d : PyData}, Dp K F v d → Dp K H v d
  | _, _, .non => .non
  | _, _, .bl b => .bl b
  | _, _, .int i => .int i
  | _, _, .str x => .str x
  | _, _, .lst q r => .lst (s.sqL q) (DpAll.sub s r)
  | _, _, .tup q r => .tup (s.sqT q) (DpAll.sub s r)
theorem DpAll.sub {F H : Hp} (s : Sub F H) : ∀ {vs : List V} {ds : List PyData}, DpAll K F vs ds → DpAll K H vs ds
  | _, _, .nil => .nil
  | _, _, .cons h t => .cons (Dp.sub s h) (DpAll.sub s t)
end
theorem Rep1.dp {n : Nat} {d : D} {v : V} (s : Sub F H) (h : Rep1 K P F H d v) (e : d.dat n = true) : Dp K H v d.py := by
  cases d with
  | lst xs =>
    obtain ⟨a, vs, rfl, q, _, r⟩ := h
    cases n with
    | zero => simp [D.dat] at e
    | succ n =>
      unfold D.dat at e
      exact .lst (SqL.of q) (DpAll.sub s (Reps.dp n xs vs r e))
  | _ => exact Dp.sub s (Rep.dp (P := P) n _ _ h e)
end

/-! ### meanings -/
abbrev Env.at (ρ : Env) (i : Nat) : Cell := (ρ[i]?).getD .no
def eVar (i : Nat) : DE := fun ρ p => match ρ.at i with
  | .sh d => some (d, p)
  | _ => none
def eVb (i : Nat) : DE := fun ρ p => match ρ.at i with
  | .sh d => some (d, p)
  | .own xs => some (.lst xs, p)
  | _ => none
def eC (d : D) : DE := fun _ p => some (d, p)
def eBin (g : D → D → Option D) (a b : DE) : DE := fun ρ p => (a ρ p).bind fun x => (b ρ x.2).bind fun y => (g x.1 y.1).map fun d => (d, y.2)
def eUn (g : D → Option D) (a : DE) : DE := fun ρ p => (a ρ p).bind fun x => (g x.1).map fun d => (d, x.2)
def tCmp (g : D → D → Option Bool) (a b : DE) : DT := fun ρ p => (a ρ p).bind fun x => (b ρ x.2).bind fun y => (g x.1 y.1).map fun d => (d, y.2)
def tChn (g h : D → D → Option Bool) (a b c : DE) : DT := fun ρ p => (a ρ p).bind fun x => (b ρ x.2).bind fun y => (g x.1 y.1).bind fun k => if k then (c ρ y.2).bind fun z => (h y.1 z.1).map fun d => (d, z.2) else some (false, y.2)
def eT (t : DT) : DE := fun ρ p => (t ρ p).map fun x => (.bl x.1, x.2)
def D.tru : D → Option Bool
  | .non => some false
  | .bl b => some b
  | .int i => some (i != 0)
  | .str x => if x.length ≤ sizeLine then some (x.length != 0) else none
  | .lst xs => some (!xs.isEmpty)
  | .tup xs => some (!xs.isEmpty)
  | _ => none
def tE (f : DE) : DT := fun ρ p => (f ρ p).bind fun x => x.1.tru.map fun b => (b, x.2)
def tNot (t : DT) : DT := fun ρ p => (t ρ p).map fun x => (!x.1, x.2)
def tAnd (t u : DT) : DT := fun ρ p => (t ρ p).bind fun x => if x.1 then u ρ x.2 else some (false, x.2)
def tOr (t u : DT) : DT := fun ρ p => (t ρ p).bind fun x => if x.1 then some (true, x.2) else u ρ x.2
def tIf (c t u : DT) : DT := fun ρ p => (c ρ p).bind fun x => if x.1 then t ρ x.2 else u ρ x.2
def eIf (c : DT) (a b : DE) : DE := fun ρ p => (c ρ p).bind fun x => if x.1 then a ρ x.2 else b ρ x.2
/-- and, or of values: by truth -/
def eAnd (a b : DE) : DE := fun ρ p => (a ρ p).bind fun x => x.1.tru.bind fun k => if k then b ρ x.2 else some x
def eOr (a b : DE) : DE := fun ρ p => (a ρ p).bind fun x => x.1.tru.bind fun k => if k then some x else b ρ x.2

/-! ### rules: names, constants -/
section
variable {X : Cx} {x : Str} {i : Nat} {pos : Pos}
theorem Rel.sh {K : PySem.W.Frag} {P : Addr} {F0 : Hp} {G0 : Gd} {F H : Hp} {ρ : Env} {σ : L2.St} {p : Pen} {i : Nat} {d : D} (R : Rel K P F0 G0 F H ρ σ p) (e : ρ.at i = .sh d) : ∃ v, σ[i]? = some (some v) ∧ Rep K P F d v := by
  unfold Env.at at e
  cases q : ρ[i]? with
  | none =>
    rw [q] at e
    cases e
  | some c =>
    rw [q] at e
    obtain ⟨ov, e2, h⟩ := R.cell i c q
    have e3 : c = .sh d := e
    subst e3
    obtain ⟨v, rfl, r⟩ := h
    exact ⟨v, e2, r⟩
theorem Rel.ow {K : PySem.W.Frag} {P : Addr} {F0 : Hp} {G0 : Gd} {F H : Hp} {ρ : Env} {σ : L2.St} {p : Pen} {i : Nat} {xs : List D} (R : Rel K P F0 G0 F H ρ σ p) (e : ρ.at i = .own xs) :
    ∃ a vs, σ[i]? = some (some (.ref a)) ∧ H a = some (.lst vs) ∧ vs.length ≤ sizeLine ∧ Reps K P F xs vs ∧ F a = none ∧ G0 a = none ∧ a ≠ P := by
  unfold Env.at at e
  cases q : ρ[i]? with
  | none =>
    rw [q] at e
    cases e
  | some c =>
    rw [q] at e
    obtain ⟨ov, e2, h⟩ := R.cell i c q
    have e3 : c = .own xs := e
    subst e3
    obtain ⟨a, vs, rfl, r⟩ := h
    exact ⟨a, vs, e2, r⟩
theorem x_var (hN : X.N[i]? = some x) (hv : Vis X.env.scope x) (hd : (x == ("__debug__" : Str)) = false) (hcd : (x == ("__classdict__" : Str)) = false) : PE X (.Name x pos) (cE X.K (eVar i)) :=
  PE.imp (pe_var hN hv hd hcd) fun σ H Q ⟨P, F0, G0, F, ρ, p, d, p', R, e, k⟩ => by
    unfold eVar at e
    split at e
    · rename_i d2 q
      simp only [Option.some.injEq, Prod.mk.injEq] at e
      obtain ⟨rfl, rfl⟩ := e
      obtain ⟨v, e2, r⟩ := R.sh q
      exact ⟨v, e2, k v F H (Step.refl R.sub) R.pen r⟩
    · cases e
theorem x_vb (hN : X.N[i]? = some x) (hv : Vis X.env.scope x) (hd : (x == ("__debug__" : Str)) = false) (hcd : (x == ("__classdict__" : Str)) = false) : PE X (.Name x pos) (cB X.K (eVb i)) :=
  PE.imp (pe_var hN hv hd hcd) fun σ H Q ⟨P, F0, G0, F, ρ, p, d, p', R, e, k⟩ => by
    unfold eVb at e
    split at e
    · rename_i d2 q
      simp only [Option.some.injEq, Prod.mk.injEq] at e
      obtain ⟨rfl, rfl⟩ := e
      obtain ⟨v, e2, r⟩ := R.sh q
      exact ⟨v, e2, k v F H (Step.refl R.sub) R.pen (r.one R.sub)⟩
    · rename_i xs q
      simp only [Option.some.injEq, Prod.mk.injEq] at e
      obtain ⟨rfl, rfl⟩ := e
      obtain ⟨a, vs, e2, h1, h2, h3, _⟩ := R.ow q
      exact ⟨.ref a, e2, k _ F H (Step.refl R.sub) R.pen ⟨a, vs, rfl, h1, h2, h3⟩⟩
    · cases e
theorem x_c {e : Expr} {d : D} {v : V} (h : PE X e (tC v)) (r : ∀ K P F, Rep K P F d v) : PE X e (cE X.K (eC d)) :=
  PE.imp h fun σ H Q ⟨P, F0, G0, F, ρ, p, d, p', R, e, k⟩ => by
    simp only [eC, Option.some.injEq, Prod.mk.injEq] at e
    obtain ⟨rfl, rfl⟩ := e
    exact k v F H (Step.refl R.sub) R.pen (r _ _ _)
end

/-! ### rules: operators -/
/-- an operator's rule serves this meaning -/
def OpD (K : PySem.W.Frag) (r : R2) (g : D → D → Option D) : Prop := ∀ P F H x y v u d Q p, PenAt K P F H p → Sub F H → Rep1 K P F H x v → Rep1 K P F H y u → g x y = some d →
  (∀ w F' H', Ext F H F' H' → Rep K P F' d w → Q w H') → r v u H Q
def OpB (K : PySem.W.Frag) (r : R2) (g : D → D → Option Bool) : Prop := ∀ P F H x y v u b Q p, PenAt K P F H p → Sub F H → Rep1 K P F H x v → Rep1 K P F H y u → g x y = some b → Q (.bl b) H → r v u H Q
section
variable {X : Cx} {a b c : Expr} {fa fb fc : DE} {r r' : R2} {pos : Pos}
theorem go2 {K : PySem.W.Frag} {P : Addr} {F0 : Hp} {G0 : Gd} {F H : Hp} {ρ : Env} {σ : L2.St} {p p1 p2 : Pen} {x y : D} {R : V → V → Hp → Prop} (L : Rel K P F0 G0 F H ρ σ p) (e1 : fa ρ p = some (x, p1)) (e2 : fb ρ p1 = some (y, p2))
    (k : ∀ v u F' H', Step P F H F' H' → PenAt K P F' H' p2 → Rep1 K P F' H' x v → Rep1 K P F' H' y u → R v u H') : cB K fa σ H fun v H1 => cB K fb σ H1 fun u H2 => R v u H2 :=
  ⟨P, F0, G0, F, ρ, p, x, p1, L, e1, fun v F1 H1 s1 q1 r1 => ⟨P, F0, G0, F1, ρ, p1, y, p2, L.go s1 q1, e2, fun u F2 H2 s2 q2 r2 => k v u F2 H2 (s1.trans s2 q1.thr) q2 (r1.go s2 q1.dk) r2⟩⟩
theorem op2 {g : D → D → Option D} {σ : L2.St} {H : Hp} {Q : VK} {K : PySem.W.Frag} (hg : OpD K r g) (h : cE K (eBin g fa fb) σ H Q) : tOp r (cB K fa) (cB K fb) σ H Q := by
  obtain ⟨P, F0, G0, F, ρ, p, d, p', L, e, k⟩ := h
  simp only [eBin, Option.bind_eq_some_iff, Option.map_eq_some_iff, Prod.mk.injEq] at e
  obtain ⟨⟨x, p1⟩, e1, ⟨y, p2⟩, e2, d', e3, rfl, rfl⟩ := e
  exact go2 L e1 e2 fun v u F' H' s q r1 r2 => hg P F' H' x y v u d' Q p2 q s.fh r1 r2 e3 fun w F2 H2 t rw => k w F2 H2 (s.trans (t.step P) q.thr) (q.ext t) rw
theorem op2b {g : D → D → Option Bool} {σ : L2.St} {H : Hp} {Q : Bool → Hp → Prop} {K : PySem.W.Frag} (hg : OpB K r g) (h : cT K (tCmp g fa fb) σ H Q) : tTest (tOp r (cB K fa) (cB K fb)) σ H Q := by
  obtain ⟨P, F0, G0, F, ρ, p, d, p', L, e, k⟩ := h
  simp only [tCmp, Option.bind_eq_some_iff, Option.map_eq_some_iff, Prod.mk.injEq] at e
  obtain ⟨⟨x, p1⟩, e1, ⟨y, p2⟩, e2, d', e3, rfl, rfl⟩ := e
  exact go2 L e1 e2 fun v u F' H' s q r1 r2 => hg P F' H' x y v u d' _ p2 q s.fh r1 r2 e3 ⟨_, rfl, k F' H' s q⟩
theorem opb2 {g : D → D → Option Bool} {σ : L2.St} {H : Hp} {Q : VK} {K : PySem.W.Frag} (hg : OpB K r g) (h : cE K (eT (tCmp g fa fb)) σ H Q) : tOp r (cB K fa) (cB K fb) σ H Q := by
  obtain ⟨P, F0, G0, F, ρ, p, d, p', L, e, k⟩ := h
  simp only [eT, tCmp, Option.bind_eq_some_iff, Option.map_eq_some_iff, Prod.mk.injEq, Prod.exists] at e
  obtain ⟨_, _, ⟨x, p1, e1, y, p2, e2, d', e3, rfl, rfl⟩, rfl, rfl⟩ := e
  exact go2 L e1 e2 fun v u F' H' s q r1 r2 => hg P F' H' x y v u d' _ p2 q s.fh r1 r2 e3 (k _ F' H' s q (by unfold Rep; rfl))
theorem x_bin {op : Operator} {g : D → D → Option D} (ho : OpR X (binaryOp op) r) (hg : OpD X.K r g) (ha : PE X a (cB X.K fa)) (hb : PE X b (cB X.K fb)) : PE X (.BinOp a op b pos) (cE X.K (eBin g fa fb)) :=
  PE.imp (pe_op ho ha hb) fun _ _ _ h => op2 hg h
theorem x_cmp {op : CmpOp} {g : D → D → Option Bool} (ho : OpR X (compareOp op) r) (hg : OpB X.K r g) (ha : PE X a (cB X.K fa)) (hb : PE X b (cB X.K fb)) (hm : behindInMarks op b = false) : PE X (.Compare a [op] [b] pos) (cE X.K (eT (tCmp g fa fb))) :=
  PE.imp (pe_cmpR ho ha hb hm) fun _ _ _ h => opb2 hg h
theorem x_tcmp {op : CmpOp} {g : D → D → Option Bool} (ho : OpR X (compareOp op) r) (hg : OpB X.K r g) (ha : PE X a (cB X.K fa)) (hb : PE X b (cB X.K fb)) (hm : behindInMarks op b = false) : PT X (.Compare a [op] [b] pos) (cT X.K (tCmp g fa fb)) :=
  PT.imp (pt_cmpR ho ha hb hm) fun _ _ _ h => op2b hg h
theorem chn {g h : D → D → Option Bool} {K : PySem.W.Frag} {σ : L2.St} {H : Hp} {Q : Bool → Hp → Prop} (hg : OpB K r g) (hh : OpB K r' h) (z : cT K (tChn g h fa fb fc) σ H Q) : tTest (tChain r r' (cB K fa) (cB K fb) (cB K fc)) σ H Q := by
  obtain ⟨P, F0, G0, F, ρ, p, d, p', L, e, k⟩ := z
  simp only [tChn, Option.bind_eq_some_iff, Prod.mk.injEq] at e
  obtain ⟨⟨x, p1⟩, e1, ⟨y, p2⟩, e2, c, e3, e4⟩ := e
  refine go2 (R := fun v u H2 => r v u H2 fun z H3 => ∃ k, z = .bl k ∧ (if k = true then cB K fc σ H3 fun w' H4 => r' u w' H4 (fun x H' => ∃ k, x = .bl k ∧ Q k H') else (∃ k, V.bl false = .bl k ∧ Q k H3))) L e1 e2 fun v u F' H' s q r1 r2 => ?_
  refine hg P F' H' x y v u c _ p2 q s.fh r1 r2 e3 ⟨c, rfl, ?_⟩
  cases c with
  | false =>
    simp only [Bool.false_eq_true, if_false, Option.some.injEq, Prod.mk.injEq] at e4
    obtain ⟨rfl, rfl⟩ := e4
    exact ⟨_, rfl, k F' H' s q⟩
  | true =>
    simp only [if_true, Option.bind_eq_some_iff, Option.map_eq_some_iff, Prod.mk.injEq, Prod.exists] at e4
    obtain ⟨w, p3, e5, d', e6, rfl, rfl⟩ := e4
    rw [if_pos rfl]
    refine ⟨P, F0, G0, F', ρ, p2, w, p3, L.go s q, e5, fun wv F3 H3 s3 q3 r3 => ?_⟩
    exact hh P F3 H3 y w u wv d' _ p3 q3 s3.fh (r2.go s3 q.dk) r3 e6 ⟨_, rfl, k F3 H3 (s.trans s3 q.thr) q3⟩
theorem x_tchain {op op' : CmpOp} {g h : D → D → Option Bool} (ho : OpR X (compareOp op) r) (ho' : OpR X (compareOp op') r') (hg : OpB X.K r g) (hh : OpB X.K r' h) (ha : PE X a (cB X.K fa)) (hb : PE X b (cB X.K fb)) (hc : PE X c (cB X.K fc))
    (hm : lastMarks [op, op'] [b, c] = false) : PT X (.Compare a [op, op'] [b, c] pos) (cT X.K (tChn g h fa fb fc)) :=
  PT.imp (pt_chain ho ho' ha hb hc (hm := hm)) fun _ _ _ z => chn hg hh z
end
end Dn

namespace Dn
open PySem PySem.Spec PyProof.Rows L2
/-! ### tests -/
theorem tru_of {K : PySem.W.Frag} {P : Addr} {F H : Hp} {d : D} {v : V} {b : Bool} (h : Rep1 K P F H d v) (s : Sub F H) (e : d.tru = some b) : TruV K v H b := by
  cases d with
  | non =>
    have h : v = .non := by simpa [Rep1, Rep] using h
    subst h
    simp only [D.tru, Option.some.injEq] at e
    exact e.symm
  | bl c =>
    have h : v = .bl c := by simpa [Rep1, Rep] using h
    subst h
    simp only [D.tru, Option.some.injEq] at e
    exact e.symm
  | int i =>
    have h : v = .int i := by simpa [Rep1, Rep] using h
    subst h
    simp only [D.tru, Option.some.injEq] at e
    exact e.symm
  | str x =>
    have h : v = .str x := by simpa [Rep1, Rep] using h
    subst h
    simp only [D.tru] at e
    split at e
    · rename_i hz
      simp only [Option.some.injEq] at e
      refine ⟨hz, ?_⟩
      rw [← e]
      cases x.length with
      | zero => rfl
      | succ n =>
        simp only [bne]
        congr 1
    · cases e
  | lst xs =>
    obtain ⟨a, vs, rfl, q, z, r⟩ := h
    simp only [D.tru, Option.some.injEq] at e
    refine .inl ⟨vs, SqL.of q, ?_⟩
    rw [← e]
    have := r.length
    cases xs <;> cases vs <;> simp at this ⊢
  | tup xs =>
    have h : Rep K P F (.tup xs) v := h
    unfold Rep at h
    obtain ⟨a, vs, rfl, q, z, r⟩ := h
    simp only [D.tru, Option.some.injEq] at e
    refine .inr (.inl ⟨vs, s.sqT q.t, ?_⟩)
    rw [← e]
    have := r.length
    cases xs <;> cases vs <;> simp at this ⊢
  | wtup _ => cases e
  | ins _ _ => cases e
  | fn _ => cases e
  | pen => cases e
section
variable {X : Cx} {a b c : Expr} {fa fb fc : DE} {ta tb tc : DT} {rest : List Expr} {pos : Pos}
theorem x_truth (ha : PE X a (cB X.K fa)) (he : ∀ whole, isTrue a X.env whole = (do let v ← whole; standAt a.pos; holding [v] (truthy v))) : PT X a (cT X.K (tE fa)) :=
  PT.imp (pt_truth ha he) fun σ H Q ⟨P, F0, G0, F, ρ, p, d, p', R, e, k⟩ => by
    simp only [tE, Option.bind_eq_some_iff, Option.map_eq_some_iff, Prod.mk.injEq] at e
    obtain ⟨⟨x, p1⟩, e1, b, e2, rfl, rfl⟩ := e
    exact ⟨P, F0, G0, F, ρ, p, x, p1, R, e1, fun v F' H' s q r => ⟨b, tru_of r s.fh e2, k F' H' s q⟩⟩
theorem go1t {K : PySem.W.Frag} {P : Addr} {F0 : Hp} {G0 : Gd} {F H : Hp} {ρ : Env} {σ : L2.St} {p p1 : Pen} {x : Bool} {R : Bool → Hp → Prop} (L : Rel K P F0 G0 F H ρ σ p) (e1 : ta ρ p = some (x, p1))
    (k : ∀ F' H', Step P F H F' H' → PenAt K P F' H' p1 → R x H') : cT K ta σ H R := ⟨P, F0, G0, F, ρ, p, x, p1, L, e1, k⟩
theorem x_not (ha : PT X a (cT X.K ta)) : PT X (.UnaryOp .Not a pos) (cT X.K (tNot ta)) :=
  PT.imp (pt_not ha) fun σ H Q ⟨P, F0, G0, F, ρ, p, d, p', R, e, k⟩ => by
    simp only [tNot, Option.map_eq_some_iff, Prod.mk.injEq] at e
    obtain ⟨⟨x, p1⟩, e1, rfl, rfl⟩ := e
    exact go1t R e1 fun F' H' s q => k F' H' s q
theorem and_c {K : PySem.W.Frag} {σ : L2.St} {H : Hp} {Q : Bool → Hp → Prop} (h : cT K (tAnd ta tb) σ H Q) : L2.tAnd (cT K ta) (cT K tb) σ H Q := by
  obtain ⟨P, F0, G0, F, ρ, p, d, p', R, e, k⟩ := h
  simp only [tAnd, Option.bind_eq_some_iff] at e
  obtain ⟨⟨x, p1⟩, e1, e2⟩ := e
  refine go1t (R := fun c H1 => if c = true then cT K tb σ H1 Q else Q false H1) R e1 fun F' H' s q => ?_
  cases x with
  | false =>
    simp only [Bool.false_eq_true, if_false, Option.some.injEq, Prod.mk.injEq] at e2
    obtain ⟨rfl, rfl⟩ := e2
    exact k F' H' s q
  | true =>
    simp only [if_true] at e2
    exact go1t (R.go s q) e2 fun F2 H2 s2 q2 => k F2 H2 (s.trans s2 q.thr) q2
theorem or_c {K : PySem.W.Frag} {σ : L2.St} {H : Hp} {Q : Bool → Hp → Prop} (h : cT K (tOr ta tb) σ H Q) : L2.tOr (cT K ta) (cT K tb) σ H Q := by
  obtain ⟨P, F0, G0, F, ρ, p, d, p', R, e, k⟩ := h
  simp only [tOr, Option.bind_eq_some_iff] at e
  obtain ⟨⟨x, p1⟩, e1, e2⟩ := e
  refine go1t (R := fun c H1 => if c = true then Q true H1 else cT K tb σ H1 Q) R e1 fun F' H' s q => ?_
  cases x with
  | true =>
    simp only [if_true, Option.some.injEq, Prod.mk.injEq] at e2
    obtain ⟨rfl, rfl⟩ := e2
    exact k F' H' s q
  | false =>
    simp only [Bool.false_eq_true, if_false] at e2
    exact go1t (R.go s q) e2 fun F2 H2 s2 q2 => k F2 H2 (s.trans s2 q.thr) q2
theorem PW.imp {X : Cx} {e : Expr} {t t' : TT} (h : PW X e t) (i : ∀ σ H Q, t' σ H Q → t σ H Q) : PW X e t' := ⟨fun wh pins s σ H Q I q => h.run wh pins s σ H Q I (i σ H Q q)⟩
theorem x_and1 (ha : PT X a (cT X.K ta)) : PW X (.BoolOp .And [a] pos) (cT X.K ta) := pw_and1 ha
theorem x_or1 (ha : PT X a (cT X.K ta)) : PW X (.BoolOp .Or [a] pos) (cT X.K ta) := pw_or1 ha
theorem x_and (ha : PT X a (cT X.K ta)) (hb : PW X (.BoolOp .And (b :: rest) pos) (cT X.K tb)) : PW X (.BoolOp .And (a :: b :: rest) pos) (cT X.K (tAnd ta tb)) := PW.imp (pw_and ha hb) fun _ _ _ h => and_c h
theorem x_or (ha : PT X a (cT X.K ta)) (hb : PW X (.BoolOp .Or (b :: rest) pos) (cT X.K tb)) : PW X (.BoolOp .Or (a :: b :: rest) pos) (cT X.K (tOr ta tb)) := PW.imp (pw_or ha hb) fun _ _ _ h => or_c h
/-- a conditional expression as a test -/
theorem pt_ifExp {t u w : TT} (hc : PT X c t) (ha : PT X a u) (hb : PT X b w) : PT X (.IfExp c a b pos) (fun σ H Q => t σ H fun k H1 => if k = true then u σ H1 Q else w σ H1 Q) := by
  refine ⟨fun pins s σ H Q I h => ?_⟩
  unfold PySem.isTrue
  refine wpAny_bind (thn (hc.run pins s σ H _ I h) fun k s1 ⟨H1, I1, q1⟩ => ?_)
  cases k with
  | true =>
    rw [if_pos rfl]
    exact ha.run pins s1 σ H1 Q I1 (by simpa using q1)
  | false =>
    rw [if_neg (by decide)]
    exact hb.run pins s1 σ H1 Q I1 (by simpa using q1)
theorem x_tif (hc : PT X c (cT X.K tc)) (ha : PT X a (cT X.K ta)) (hb : PT X b (cT X.K tb)) : PT X (.IfExp c a b pos) (cT X.K (tIf tc ta tb)) :=
  PT.imp (pt_ifExp hc ha hb) fun σ H Q ⟨P, F0, G0, F, ρ, p, d, p', R, e, k⟩ => by
    simp only [tIf, Option.bind_eq_some_iff] at e
    obtain ⟨⟨x, p1⟩, e1, e2⟩ := e
    refine go1t (R := fun k H1 => if k = true then cT X.K ta σ H1 Q else cT X.K tb σ H1 Q) R e1 fun F' H' s q => ?_
    cases x with
    | true =>
      simp only [if_true] at e2
      exact go1t (R.go s q) e2 fun F2 H2 s2 q2 => k F2 H2 (s.trans s2 q.thr) q2
    | false =>
      simp only [Bool.false_eq_true, if_false] at e2
      exact go1t (R.go s q) e2 fun F2 H2 s2 q2 => k F2 H2 (s.trans s2 q.thr) q2
theorem x_if (hc : PT X c (cT X.K tc)) (ha : PE X a (cE X.K fa)) (hb : PE X b (cE X.K fb)) : PE X (.IfExp c a b pos) (cE X.K (eIf tc fa fb)) :=
  PE.imp (pe_ifExp hc ha hb) fun σ H Q ⟨P, F0, G0, F, ρ, p, d, p', R, e, k⟩ => by
    simp only [eIf, Option.bind_eq_some_iff] at e
    obtain ⟨⟨x, p1⟩, e1, e2⟩ := e
    refine go1t (R := fun k H1 => if k = true then cE X.K fa σ H1 Q else cE X.K fb σ H1 Q) R e1 fun F' H' s q => ?_
    cases x with
    | true =>
      simp only [if_true] at e2
      exact ⟨P, F0, G0, F', ρ, p1, d, p', R.go s q, e2, fun v F2 H2 s2 q2 r2 => k v F2 H2 (s.trans s2 q.thr) q2 r2⟩
    | false =>
      simp only [Bool.false_eq_true, if_false] at e2
      exact ⟨P, F0, G0, F', ρ, p1, d, p', R.go s q, e2, fun v F2 H2 s2 q2 r2 => k v F2 H2 (s.trans s2 q.thr) q2 r2⟩
/-- a new list by a condition -/
def lIf (c : DT) (a b : DL) : DL := fun ρ p => (c ρ p).bind fun x => if x.1 then a ρ x.2 else b ρ x.2
theorem x_ifF {la lb : DL} (hc : PT X c (cT X.K tc)) (ha : PE X a (cF X.K la)) (hb : PE X b (cF X.K lb)) : PE X (.IfExp c a b pos) (cF X.K (lIf tc la lb)) :=
  PE.imp (pe_ifExp hc ha hb) fun σ H Q ⟨P, F0, G0, F, ρ, p, d, p', R, e, k⟩ => by
    simp only [lIf, Option.bind_eq_some_iff] at e
    obtain ⟨⟨x, p1⟩, e1, e2⟩ := e
    refine go1t (R := fun k H1 => if k = true then cF X.K la σ H1 Q else cF X.K lb σ H1 Q) R e1 fun F' H' s q => ?_
    have back : ∀ {a : Addr}, H' a = none → H a = none ∨ a = P := fun {a} h => by
      cases e : H a with
      | none => exact .inl rfl
      | some o =>
        refine .inr (Classical.byContradiction fun n => ?_)
        rw [s.hh _ _ n e] at h
        cases h
    cases x with
    | true =>
      simp only [if_true] at e2
      refine ⟨P, F0, G0, F', ρ, p1, d, p', R.go s q, e2, fun a vs F2 H2 s2 q2 h1 h2 h3 h4 h5 => k a vs F2 H2 (s.trans s2 q.thr) q2 ?_ h2 h3 h4 h5⟩
      rcases back h1 with z | z
      · exact z
      · exact absurd (z ▸ h1) q.thr
    | false =>
      simp only [Bool.false_eq_true, if_false] at e2
      refine ⟨P, F0, G0, F', ρ, p1, d, p', R.go s q, e2, fun a vs F2 H2 s2 q2 h1 h2 h3 h4 h5 => k a vs F2 H2 (s.trans s2 q.thr) q2 ?_ h2 h3 h4 h5⟩
      rcases back h1 with z | z
      · exact z
      · exact absurd (z ▸ h1) q.thr
theorem x_notV (ha : PE X a (cB X.K fa)) : PE X (.UnaryOp .Not a pos) (cE X.K (eT (tNot (tE fa)))) :=
  PE.imp (pe_notT ha) fun σ H Q ⟨P, F0, G0, F, ρ, p, d, p', R, e, k⟩ => by
    simp only [eT, tNot, tE, Option.bind_eq_some_iff, Option.map_eq_some_iff, Prod.mk.injEq, Prod.exists] at e
    obtain ⟨_, _, ⟨_, _, ⟨x, p1, e1, b, e2, rfl, rfl⟩, rfl, rfl⟩, rfl, rfl⟩ := e
    exact ⟨P, F0, G0, F, ρ, p, x, p1, R, e1, fun v F' H' s q r => ⟨b, tru_of r s.fh e2, k _ F' H' s q (by unfold Rep; rfl)⟩⟩
theorem x_one {op : BoolOp} {t : TE} (ha : PE X a t) : PE X (.BoolOp op [a] pos) t := pe_one ha
theorem x_andV (ha : PE X a (cE X.K fa)) (hb : PE X (.BoolOp .And (b :: rest) pos) (cE X.K fb)) : PE X (.BoolOp .And (a :: b :: rest) pos) (cE X.K (eAnd fa fb)) :=
  PE.imp (pe_andT ha hb) fun σ H Q ⟨P, F0, G0, F, ρ, p, d, p', R, e, k⟩ => by
    simp only [eAnd, Option.bind_eq_some_iff] at e
    obtain ⟨⟨x, p1⟩, e1, b, e2, e3⟩ := e
    refine ⟨P, F0, G0, F, ρ, p, x, p1, R, e1, fun v F' H' s q r => ⟨b, tru_of (r.one s.fh) s.fh e2, ?_⟩⟩
    cases b with
    | true =>
      simp only [if_true] at e3 ⊢
      exact ⟨P, F0, G0, F', ρ, p1, d, p', R.go s q, e3, fun v F2 H2 s2 q2 r2 => k v F2 H2 (s.trans s2 q.thr) q2 r2⟩
    | false =>
      simp only [Bool.false_eq_true, if_false, Option.some.injEq, Prod.mk.injEq] at e3 ⊢
      obtain ⟨rfl, rfl⟩ := e3
      exact k v F' H' s q r
theorem x_orV (ha : PE X a (cE X.K fa)) (hb : PE X (.BoolOp .Or (b :: rest) pos) (cE X.K fb)) : PE X (.BoolOp .Or (a :: b :: rest) pos) (cE X.K (eOr fa fb)) :=
  PE.imp (pe_orT ha hb) fun σ H Q ⟨P, F0, G0, F, ρ, p, d, p', R, e, k⟩ => by
    simp only [eOr, Option.bind_eq_some_iff] at e
    obtain ⟨⟨x, p1⟩, e1, b, e2, e3⟩ := e
    refine ⟨P, F0, G0, F, ρ, p, x, p1, R, e1, fun v F' H' s q r => ⟨b, tru_of (r.one s.fh) s.fh e2, ?_⟩⟩
    cases b with
    | false =>
      simp only [Bool.false_eq_true, if_false] at e3 ⊢
      exact ⟨P, F0, G0, F', ρ, p1, d, p', R.go s q, e3, fun v F2 H2 s2 q2 r2 => k v F2 H2 (s.trans s2 q.thr) q2 r2⟩
    | true =>
      simp only [if_true, Option.some.injEq, Prod.mk.injEq] at e3 ⊢
      obtain ⟨rfl, rfl⟩ := e3
      exact k v F' H' s q r
end

/-! ### the operators' meanings -/
def big64 (i : Int) : Bool := decide (-(2 ^ 64) < i) && decide (i < 2 ^ 64)
def gAdd : D → D → Option D
  | .int i, .int j => some (.int (i + j))
  | .tup xs, .tup ys => if xs.length + ys.length ≤ sizeLine then some (.tup (xs ++ ys)) else none
  | .str x, .str y => if x.length + y.length ≤ sizeLine then some (.str (x ++ y)) else none
  | .lst xs, .lst ys => if xs.length + ys.length ≤ sizeLine then some (.lst (xs ++ ys)) else none
  | _, _ => none
def gSub : D → D → Option D
  | .int i, .int j => some (.int (i - j))
  | _, _ => none
def gMul : D → D → Option D
  | .int i, .int j => if big64 i || big64 j then some (.int (i * j)) else none
  | .lst xs, .int k => if -(2 ^ 63) ≤ k ∧ k < 2 ^ 63 ∧ xs.length * k.toNat ≤ sizeLine then some (.lst (List.replicate k.toNat xs).flatten) else none
  | _, _ => none
def gDiv : D → D → Option D
  | .int i, .int j => if j ≠ 0 ∧ j.natAbs < 1073741824 then some (.int (i.fdiv j)) else none
  | _, _ => none
def gMod : D → D → Option D
  | .int i, .int j => if j ≠ 0 then some (.int (i.fmod j)) else none
  | _, _ => none
def gPow : D → D → Option D
  | .int i, .int j => if 0 ≤ j ∧ j ≤ 1000000 ∧ i.natAbs < 2 ^ 64 then some (.int (i ^ j.toNat)) else none
  | _, _ => none
def gShl : D → D → Option D
  | .int i, .int j => if 0 ≤ j ∧ j ≤ 1000000 ∧ i.natAbs < 2 ^ 64 then some (.int (i * 2 ^ j.toNat)) else none
  | _, _ => none
def gShr : D → D → Option D
  | .int i, .int j => if 0 ≤ j then some (.int (i / 2 ^ j.toNat)) else none
  | _, _ => none
section
variable {X : Cx}
theorem OpR.or3 {f : Value → Value → Sem Value} {r r' r2 : R2} (h : OpR X f r) (h' : OpR X f r') (h2 : OpR X f r2) : OpR X f (fun x y H Q => r x y H Q ∨ r' x y H Q ∨ r2 x y H Q) := OpR.or h (OpR.or h' h2)
theorem d_int {K : PySem.W.Frag} {P : Addr} {F H : Hp} {i : Int} {v : V} (h : Rep1 K P F H (.int i) v) : v = .int i := by simpa [Rep1, Rep] using h
theorem d_str {K : PySem.W.Frag} {P : Addr} {F H : Hp} {i : Str} {v : V} (h : Rep1 K P F H (.str i) v) : v = .str i := by simpa [Rep1, Rep] using h
theorem d_bl {K : PySem.W.Frag} {P : Addr} {F H : Hp} {i : Bool} {v : V} (h : Rep1 K P F H (.bl i) v) : v = .bl i := by simpa [Rep1, Rep] using h
theorem d_non {K : PySem.W.Frag} {P : Addr} {F H : Hp} {v : V} (h : Rep1 K P F H .non v) : v = .non := by simpa [Rep1, Rep] using h
theorem d_tup {K : PySem.W.Frag} {P : Addr} {F H : Hp} {v : V} {xs : List D} (h : Rep1 K P F H (.tup xs) v) : ∃ a vs, v = .ref a ∧ SqZ K F a vs ∧ vs.length ≤ sizeLine ∧ Reps K P F xs vs := by simpa [Rep1, Rep] using h
theorem d_lst0 {K : PySem.W.Frag} {P : Addr} {F H : Hp} {v : V} {xs : List D} (h : Rep1 K P F H (.lst xs) v) : ∃ a vs, v = .ref a ∧ H a = some (.lst vs) ∧ vs.length ≤ sizeLine ∧ Reps K P F xs vs := h
theorem d_lst {K : PySem.W.Frag} {P : Addr} {F H : Hp} {v : V} {xs : List D} (h : Rep1 K P F H (.lst xs) v) : ∃ a vs, v = .ref a ∧ SqL K H a vs ∧ vs.length ≤ sizeLine ∧ Reps K P F xs vs := by
  obtain ⟨a, vs, e, q, r⟩ := d_lst0 h
  exact ⟨a, vs, e, SqL.of q, r⟩
theorem r_int {K : PySem.W.Frag} {P : Addr} {F : Hp} {i : Int} : Rep K P F (.int i) (.int i) := by unfold Rep; rfl
theorem r_str {K : PySem.W.Frag} {P : Addr} {F : Hp} {i : Str} : Rep K P F (.str i) (.str i) := by unfold Rep; rfl
theorem r_bl {K : PySem.W.Frag} {P : Addr} {F : Hp} {i : Bool} : Rep K P F (.bl i) (.bl i) := by unfold Rep; rfl
theorem r_non {K : PySem.W.Frag} {P : Addr} {F : Hp} : Rep K P F .non .non := by unfold Rep; rfl
theorem r_tup {K : PySem.W.Frag} {P : Addr} {F : Hp} {a : Addr} {ob : Obj} {xs : List D} {vs : List V} (h : F a = some (.frz ob (.tup vs))) (d : ob.dict = none) (z : vs.length ≤ sizeLine) (r : Reps K P F xs vs) : Rep K P F (.tup xs) (.ref a) := by
  unfold Rep
  exact ⟨a, vs, rfl, SqZ.of h d, z, r⟩
/-- a new tuple -/
theorem new_tup {K : PySem.W.Frag} {P : Addr} {F H : Hp} {xs : List D} {vs : List V} {Q : VK} (s : Sub F H) (z : vs.length ≤ sizeLine) (r : Reps K P F xs vs) (k : ∀ w F' H', Ext F H F' H' → Rep K P F' (.tup xs) w → Q w H') : NewT vs H Q :=
  fun p ob hp hd => k (.ref p) (upd F p (.frz ob (.tup vs))) _ (Ext.new s hp) (r_tup upd_same hd z (r.mono (Ext.new s hp).ff))
theorem add_R0 : OpR X (binaryOp .Add) (fun x y H Q => (rI0 fun i j => .int (i + j)) x y H Q ∨ rCatZ X.K x y H Q ∨ (fun x y H Q => ∃ i j, x = .str i ∧ y = .str j ∧ i.length + j.length ≤ sizeLine ∧ Q (.str (i ++ j)) H) x y H Q) := OpR.or3 op_add op_catZ op_add_str
abbrev rAdd4 (K : PySem.W.Frag) : R2 := fun x y H Q => (fun x y H Q => (rI0 fun i j => .int (i + j)) x y H Q ∨ rCatZ K x y H Q ∨ (fun x y H Q => ∃ i j, x = .str i ∧ y = .str j ∧ i.length + j.length ≤ sizeLine ∧ Q (.str (i ++ j)) H) x y H Q) x y H Q ∨ rCat x y H Q
theorem add_R : OpR X (binaryOp .Add) (rAdd4 X.K) := OpR.or add_R0 op_cat
/-- a new list, as a value -/
theorem new_lstD {K : PySem.W.Frag} {P : Addr} {F H : Hp} {xs : List D} {vs : List V} {Q : VK} (s : Sub F H) (z : vs.length ≤ sizeLine) (r : Reps K P F xs vs) (k : ∀ w F' H', Ext F H F' H' → Rep K P F' (.lst xs) w → Q w H') : ∀ p, H p = none → Q (.ref p) (upd H p (.lst vs)) := fun p hp => by
  have E := Ext.new (o := .lst vs) s hp
  refine k _ _ _ E ?_
  unfold Rep
  exact ⟨p, _, rfl, upd_same, z, r.mono E.ff⟩
theorem Reps.repl {K : PySem.W.Frag} {P : Addr} {F : Hp} {xs : List D} {vs : List V} (h : Reps K P F xs vs) : ∀ n : Nat, Reps K P F (List.replicate n xs).flatten (List.replicate n vs).flatten
  | 0 => Reps.nil
  | n + 1 => by
    rw [List.replicate_succ, List.replicate_succ, List.flatten_cons, List.flatten_cons]
    exact h.append (h.repl n)
theorem repl_len {α : Type} (xs : List α) : ∀ n : Nat, (List.replicate n xs).flatten.length = xs.length * n
  | 0 => by simp
  | n + 1 => by
    rw [List.replicate_succ, List.flatten_cons, List.length_append, repl_len xs n, Nat.mul_succ, Nat.add_comm]
theorem add_D {K : PySem.W.Frag} : OpD K (rAdd4 K) gAdd := by
  intro P F H x y v u d Q p pa s r1 r2 e k
  unfold gAdd at e
  split at e
  · cases d_int r1
    cases d_int r2
    simp only [Option.some.injEq] at e
    subst e
    exact .inl (.inl ⟨_, _, rfl, rfl, k _ F H (Ext.refl s) r_int⟩)
  · rename_i xs ys
    split at e
    · rename_i hz
      simp only [Option.some.injEq] at e
      subst e
      obtain ⟨a, vs, rfl, h1, z1, t1⟩ := d_tup r1
      obtain ⟨b, us, rfl, h2, z2, t2⟩ := d_tup r2
      have l1 := t1.length
      have l2 := t2.length
      have z : vs.length + us.length ≤ sizeLine := by omega
      refine .inl (.inr (.inl ⟨a, b, vs, us, rfl, rfl, s.sqT h1.t, s.sqT h2.t, z, fun e => ?_, fun _ e => ?_, fun _ _ => new_tup s (by rw [List.length_append]; exact z) (t1.append t2) k⟩))
      · subst e
        cases xs with
        | nil => exact k _ F H (Ext.refl s) (by simpa [Rep1] using r2)
        | cons => simp at l1
      · subst e
        cases ys with
        | nil => exact k _ F H (Ext.refl s) (by simpa [Rep1] using r1)
        | cons => simp at l2
    · cases e
  · split at e
    · rename_i hz
      cases d_str r1
      cases d_str r2
      simp only [Option.some.injEq] at e
      subst e
      exact .inl (.inr (.inr ⟨_, _, rfl, rfl, hz, k _ F H (Ext.refl s) r_str⟩))
    · cases e
  · split at e
    · rename_i hz
      simp only [Option.some.injEq] at e
      subst e
      obtain ⟨a, vs, rfl, h1, _, t1⟩ := d_lst0 r1
      obtain ⟨b, us, rfl, h2, _, t2⟩ := d_lst0 r2
      have l1 := t1.length
      have l2 := t2.length
      exact .inr ⟨a, b, vs, us, rfl, rfl, h1, h2, by omega, new_lstD s (by rw [List.length_append]; omega) (t1.append t2) k⟩
    · cases e
  · cases e
theorem ii_D {K : PySem.W.Frag} {C : Int → Int → Prop} {f : Int → Int → Int} {g : D → D → Option D} (h : ∀ x y d, g x y = some d → ∃ i j, x = .int i ∧ y = .int j ∧ C i j ∧ d = .int (f i j)) : OpD K (rI C fun i j => .int (f i j)) g := by
  intro P F H x y v u d Q p pa s r1 r2 e k
  obtain ⟨i, j, rfl, rfl, c, rfl⟩ := h x y d e
  cases d_int r1
  cases d_int r2
  exact ⟨_, _, rfl, rfl, c, k _ F H (Ext.refl s) r_int⟩
theorem ii0_D {K : PySem.W.Frag} {f : Int → Int → Int} {g : D → D → Option D} (h : ∀ x y d, g x y = some d → ∃ i j, x = .int i ∧ y = .int j ∧ d = .int (f i j)) : OpD K (rI0 fun i j => .int (f i j)) g := by
  intro P F H x y v u d Q p pa s r1 r2 e k
  obtain ⟨i, j, rfl, rfl, rfl⟩ := h x y d e
  cases d_int r1
  cases d_int r2
  exact ⟨_, _, rfl, rfl, k _ F H (Ext.refl s) r_int⟩
theorem sub_D {K : PySem.W.Frag} : OpD K (rI0 fun i j => .int (i - j)) gSub := ii0_D fun x y d e => by
  unfold gSub at e
  split at e
  · exact ⟨_, _, rfl, rfl, (Option.some.inj e).symm⟩
  · cases e
abbrev rMul4 : R2 := fun x y H Q => (rI CMul fun i j => .int (i * j)) x y H Q ∨ rRep x y H Q
theorem mul_R : OpR X (binaryOp .Mult) rMul4 := OpR.or op_mul op_rep
theorem mul_D {K : PySem.W.Frag} : OpD K rMul4 gMul := by
  intro P F H x y v u d Q p pa s r1 r2 e k
  unfold gMul at e
  split at e
  · split at e
    · rename_i i j h
      cases d_int r1
      cases d_int r2
      simp only [Option.some.injEq] at e
      subst e
      simp only [big64, Bool.or_eq_true, Bool.and_eq_true, decide_eq_true_eq] at h
      exact .inl ⟨_, _, rfl, rfl, h, k _ F H (Ext.refl s) r_int⟩
    · cases e
  · split at e
    · rename_i hz
      simp only [Option.some.injEq] at e
      subst e
      obtain ⟨a, vs, rfl, h1, _, t1⟩ := d_lst0 r1
      cases d_int r2
      have l1 := t1.length
      exact .inr ⟨a, _, vs, rfl, rfl, h1, hz.1, hz.2.1, by rw [← l1]; exact hz.2.2, new_lstD s (by rw [repl_len, ← l1]; exact hz.2.2) (t1.repl _) k⟩
    · cases e
  · cases e
theorem div_D {K : PySem.W.Frag} : OpD K (rI CDivN fun i j => .int (i.fdiv j)) gDiv := ii_D fun x y d e => by
  unfold gDiv at e
  split at e
  · split at e
    · rename_i h
      exact ⟨_, _, rfl, rfl, h, (Option.some.inj e).symm⟩
    · cases e
  · cases e
theorem mod_D {K : PySem.W.Frag} : OpD K (rI (fun _ j => j ≠ 0) fun i j => .int (i.fmod j)) gMod := ii_D fun x y d e => by
  unfold gMod at e
  split at e
  · split at e
    · rename_i h
      exact ⟨_, _, rfl, rfl, h, (Option.some.inj e).symm⟩
    · cases e
  · cases e
theorem pow_D {K : PySem.W.Frag} : OpD K (rI CPow fun i j => .int (i ^ j.toNat)) gPow := ii_D fun x y d e => by
  unfold gPow at e
  split at e
  · split at e
    · rename_i h
      exact ⟨_, _, rfl, rfl, h, (Option.some.inj e).symm⟩
    · cases e
  · cases e
theorem shl_D {K : PySem.W.Frag} : OpD K (rI CPow fun i j => .int (i * 2 ^ j.toNat)) gShl := ii_D fun x y d e => by
  unfold gShl at e
  split at e
  · split at e
    · rename_i h
      exact ⟨_, _, rfl, rfl, h, (Option.some.inj e).symm⟩
    · cases e
  · cases e
theorem shr_D {K : PySem.W.Frag} : OpD K (rI (fun _ j => 0 ≤ j) fun i j => .int (i / 2 ^ j.toNat)) gShr := ii_D fun x y d e => by
  unfold gShr at e
  split at e
  · split at e
    · rename_i h
      exact ⟨_, _, rfl, rfl, h, (Option.some.inj e).symm⟩
    · cases e
  · cases e
/-! comparisons -/
/-- the ints of a tuple -/
def intsOf : List D → Option (List Int)
  | [] => some []
  | .int i :: xs => (intsOf xs).map (i :: ·)
  | _ :: _ => none
theorem intsOf_eq : ∀ {xs : List D} {ns : List Int}, intsOf xs = some ns → xs = ns.map D.int
  | [], ns, h => by
    unfold intsOf at h
    cases h
    rfl
  | .int i :: xs, ns, h => by
    unfold intsOf at h
    obtain ⟨ms, h1, rfl⟩ := Option.map_eq_some_iff.mp h
    rw [intsOf_eq h1]
    rfl
  | .non :: _, _, h | .bl _ :: _, _, h | .str _ :: _, _, h | .lst _ :: _, _, h | .tup _ :: _, _, h | .wtup _ :: _, _, h | .ins _ _ :: _, _, h | .fn _ :: _, _, h | .pen :: _, _, h => by
    unfold intsOf at h
    cases h
theorem intsOf_map : ∀ ns : List Int, intsOf (ns.map D.int) = some ns
  | [] => rfl
  | n :: ns => by rw [List.map_cons, intsOf, intsOf_map ns]; rfl
def gLt : D → D → Option Bool
  | .int i, .int j => some (decide (i < j))
  | .tup xs, .tup ys => (intsOf xs).bind fun ns => (intsOf ys).map fun ms => HT.lexLt ns ms
  | _, _ => none
def gLe : D → D → Option Bool
  | .int i, .int j => some (decide (i ≤ j))
  | _, _ => none
def gGt : D → D → Option Bool
  | .int i, .int j => some (decide (j < i))
  | _, _ => none
def gGe : D → D → Option Bool
  | .int i, .int j => some (decide (j ≤ i))
  | _, _ => none
def D.eqv (x y : D) : Bool := PyData.eqv x.py y.py
def gEq : D → D → Option Bool := fun x y => if x.dat 16 && y.dat 16 then some (x.eqv y) else none
def gNe : D → D → Option Bool := fun x y => if x.dat 16 && y.dat 16 then some (!x.eqv y) else none
def D.isNon : D → Bool
  | .non => true
  | _ => false
def D.isBl (b : Bool) : D → Bool
  | .bl a => decide (a = b)
  | _ => false
def gIs : D → D → Option Bool
  | x, .non => some x.isNon
  | x, .bl b => some (x.isBl b)
  | _, _ => none
def gIsNot : D → D → Option Bool
  | x, .non => some (!x.isNon)
  | x, .bl b => some (!x.isBl b)
  | _, _ => none
def strIn (i j : Str) : Bool := !(Builtin.Str.occurrences j i 0 j.length 1).isEmpty
def gIn : D → D → Option Bool
  | x, .lst ys => if x.dat 16 && ys.all (D.dat 15) then some (ys.any fun z => z.eqv x) else none
  | x, .tup ys => if x.dat 16 && ys.all (D.dat 15) then some (ys.any fun z => z.eqv x) else none
  | .str i, .str j => some (strIn i j)
  | _, _ => none
def gNotIn : D → D → Option Bool := fun x y => (gIn x y).map fun b => !b
theorem lt_R (hr : Room 0 X.A) : OpR X (compareOp .Lt) (fun x y H Q => (rI0 fun i j => .bl (decide (i < j))) x y H Q ∨ rLtT X.K x y H Q) := OpR.or op_lt (op_ltT hr.units0)
theorem lt_B {K : PySem.W.Frag} : OpB K (fun x y H Q => (rI0 fun i j => .bl (decide (i < j))) x y H Q ∨ rLtT K x y H Q) gLt := by
  intro P F H x y v u b Q p pa s r1 r2 e k
  unfold gLt at e
  split at e
  · cases d_int r1
    cases d_int r2
    simp only [Option.some.injEq] at e
    subst e
    exact .inl ⟨_, _, rfl, rfl, k⟩
  · obtain ⟨ns, e1, e⟩ := Option.bind_eq_some_iff.mp e
    obtain ⟨ms, e2, rfl⟩ := Option.map_eq_some_iff.mp e
    have h1 := intsOf_eq e1
    have h2 := intsOf_eq e2
    subst h1 h2
    obtain ⟨a, vs, rfl, q1, z1, t1⟩ := d_tup r1
    obtain ⟨b, us, rfl, q2, z2, t2⟩ := d_tup r2
    have h1 := Reps.ints_inv t1
    have h2 := Reps.ints_inv t2
    subst h1 h2
    exact .inr ⟨a, b, ns, ms, rfl, rfl, s.sqT q1.t, s.sqT q2.t, k⟩
  · cases e
theorem ib_B {K : PySem.W.Frag} {f : Int → Int → Bool} {g : D → D → Option Bool} (h : ∀ x y b, g x y = some b → ∃ i j, x = .int i ∧ y = .int j ∧ b = f i j) : OpB K (rI0 fun i j => .bl (f i j)) g := by
  intro P F H x y v u d Q p pa s r1 r2 e k
  obtain ⟨i, j, rfl, rfl, rfl⟩ := h x y d e
  cases d_int r1
  cases d_int r2
  exact ⟨_, _, rfl, rfl, k⟩
theorem le_B {K : PySem.W.Frag} : OpB K (rI0 fun i j => .bl (decide (i ≤ j))) gLe := ib_B fun x y d e => by
  unfold gLe at e
  split at e
  · exact ⟨_, _, rfl, rfl, (Option.some.inj e).symm⟩
  · cases e
theorem gt_B {K : PySem.W.Frag} : OpB K (rI0 fun i j => .bl (decide (j < i))) gGt := ib_B fun x y d e => by
  unfold gGt at e
  split at e
  · exact ⟨_, _, rfl, rfl, (Option.some.inj e).symm⟩
  · cases e
theorem ge_B {K : PySem.W.Frag} : OpB K (rI0 fun i j => .bl (decide (j ≤ i))) gGe := ib_B fun x y d e => by
  unfold gGe at e
  split at e
  · exact ⟨_, _, rfl, rfl, (Option.some.inj e).symm⟩
  · cases e
theorem eq_B {K : PySem.W.Frag} : OpB K (rEqD K) gEq := by
  intro P F H x y v u b Q p pa s r1 r2 e k
  unfold gEq at e
  split at e
  · rename_i h
    simp only [Bool.and_eq_true] at h
    simp only [Option.some.injEq] at e
    subst e
    exact ⟨x.py, y.py, r1.dp s h.1, r2.dp s h.2, dat_shaped h.1, dat_shaped h.2, k⟩
  · cases e
theorem ne_B {K : PySem.W.Frag} : OpB K (rNeD K) gNe := by
  intro P F H x y v u b Q p pa s r1 r2 e k
  unfold gNe at e
  split at e
  · rename_i h
    simp only [Bool.and_eq_true] at h
    simp only [Option.some.injEq] at e
    subst e
    exact ⟨x.py, y.py, r1.dp s h.1, r2.dp s h.2, dat_shaped h.1, dat_shaped h.2, k⟩
  · cases e
def rInT (K : PySem.W.Frag) (neg : Bool) : R2 := fun x y H Q => ∃ d ds, Dp K H x d ∧ Dp K H y (.tuple ds) ∧ SeqAt.shaped d = true ∧ SeqAt.shaped (.tuple ds) = true ∧ Q (.bl (if neg then !(ds.any fun z => PyData.eqv z d) else ds.any fun z => PyData.eqv z d)) H
theorem room_in_t {A : Around} {d : PyData} {ds : List PyData} (h : SeqAt.shaped d = true) (hu : A.units + 65 < cLine) : A.units + 1 + min (PyData.depthAll ds) d.depth < cLine := by
  have h1 := SeqAt.depth_of_shaped h
  have h2 : min (PyData.depthAll ds) d.depth ≤ d.depth := Nat.min_le_right _ _
  omega
theorem op_inT (hu : X.A.units + 65 < cLine) : OpR X (compareOp .In) (rInT X.K false) := by
  intro pins s σ H x y v u Q I rx ry h
  obtain ⟨d, ds, hd, he, sd, se, q⟩ := h
  obtain ⟨as, r1⟩ := Dp.reads I d x v hd rx
  obtain ⟨bs, r2⟩ := Dp.reads I (.tuple ds) y u he ry
  exact SeqAt.in_tuple_reads r2 r1 (SeqAt.canLay_of_shaped se) (SeqAt.canLay_of_shaped sd) (room_in_t sd hu) ⟨.bl _, H, I, rfl, q⟩
theorem op_notInT (hu : X.A.units + 65 < cLine) : OpR X (compareOp .NotIn) (rInT X.K true) := by
  intro pins s σ H x y v u Q I rx ry h
  obtain ⟨d, ds, hd, he, sd, se, q⟩ := h
  obtain ⟨as, r1⟩ := Dp.reads I d x v hd rx
  obtain ⟨bs, r2⟩ := Dp.reads I (.tuple ds) y u he ry
  exact SeqAt.notIn_tuple_reads r2 r1 (SeqAt.canLay_of_shaped se) (SeqAt.canLay_of_shaped sd) (room_in_t sd hu) ⟨.bl _, H, I, rfl, q⟩
theorem Room.u65 {k : Nat} {A : Around} (hr : Room k A) : A.units + 65 < cLine := by
  have := hr.un
  omega
def rInS (neg : Bool) : R2 := fun x y H Q => ∃ i j, x = .str i ∧ y = .str j ∧ Q (.bl (if neg then !strIn i j else strIn i j)) H
abbrev rIn3 (K : PySem.W.Frag) : R2 := fun x y H Q => rInD K x y H Q ∨ rInT K false x y H Q ∨ rInS false x y H Q
abbrev rNotIn3 (K : PySem.W.Frag) : R2 := fun x y H Q => rNotInD K x y H Q ∨ rInT K true x y H Q ∨ rInS true x y H Q
theorem in_R (hr : Room 0 X.A) : OpR X (compareOp .In) (rIn3 X.K) := OpR.or3 (op_inD (Room.u65 hr)) (op_inT (Room.u65 hr)) op_in_str
theorem notin_R (hr : Room 0 X.A) : OpR X (compareOp .NotIn) (rNotIn3 X.K) := OpR.or3 (op_notInD (Room.u65 hr)) (op_notInT (Room.u65 hr)) op_notin_str
theorem any_pys (f : PyData → Bool) : ∀ ys : List D, (pys ys).any f = ys.any fun z => f z.py
  | [] => rfl
  | y :: ys => by rw [pys, List.any_cons, List.any_cons, any_pys f ys]
theorem gIn_some {x y : D} {b : Bool} (e : gIn x y = some b) : (∃ ys, (y = .lst ys ∨ y = .tup ys) ∧ x.dat 16 = true ∧ ys.all (D.dat 15) = true ∧ b = ys.any fun z => z.eqv x) ∨ ∃ i j, x = .str i ∧ y = .str j ∧ b = strIn i j := by
  cases y with
  | lst ys =>
    have e : (if x.dat 16 && ys.all (D.dat 15) then some (ys.any fun z => z.eqv x) else none) = some b := e
    split at e
    · rename_i h
      rw [Bool.and_eq_true] at h
      exact .inl ⟨ys, .inl rfl, h.1, h.2, (Option.some.inj e).symm⟩
    · cases e
  | tup ys =>
    have e : (if x.dat 16 && ys.all (D.dat 15) then some (ys.any fun z => z.eqv x) else none) = some b := e
    split at e
    · rename_i h
      rw [Bool.and_eq_true] at h
      exact .inl ⟨ys, .inr rfl, h.1, h.2, (Option.some.inj e).symm⟩
    · cases e
  | str j => cases x with
    | str i => exact .inr ⟨i, j, rfl, rfl, (Option.some.inj e).symm⟩
    | _ => cases e
  | _ => cases e
theorem in_B {K : PySem.W.Frag} : OpB K (rIn3 K) gIn := by
  intro P F H x y v u b Q p pa s r1 r2 e k
  rcases gIn_some e with ⟨ys, rfl | rfl, h1, h2, rfl⟩ | ⟨i, j, rfl, rfl, rfl⟩
  · have h3 : (D.lst ys).dat 16 = true := h2
    refine .inl ⟨x.py, pys ys, r1.dp s h1, r2.dp s h3, dat_shaped h1, dat_shaped h3, ?_⟩
    rw [any_pys]
    exact k
  · have h3 : (D.tup ys).dat 16 = true := h2
    refine .inr (.inl ⟨x.py, pys ys, r1.dp s h1, r2.dp s h3, dat_shaped h1, dat_shaped h3, ?_⟩)
    rw [any_pys]
    exact k
  · cases d_str r1
    cases d_str r2
    exact .inr (.inr ⟨i, j, rfl, rfl, k⟩)
theorem notin_B {K : PySem.W.Frag} : OpB K (rNotIn3 K) gNotIn := by
  intro P F H x y v u b Q p pa s r1 r2 e k
  obtain ⟨c, e2, rfl⟩ := Option.map_eq_some_iff.mp e
  rcases gIn_some e2 with ⟨ys, rfl | rfl, h1, h2, rfl⟩ | ⟨i, j, rfl, rfl, rfl⟩
  · have h3 : (D.lst ys).dat 16 = true := h2
    refine .inl ⟨x.py, pys ys, r1.dp s h1, r2.dp s h3, dat_shaped h1, dat_shaped h3, ?_⟩
    rw [any_pys]
    exact k
  · have h3 : (D.tup ys).dat 16 = true := h2
    refine .inr (.inl ⟨x.py, pys ys, r1.dp s h1, r2.dp s h3, dat_shaped h1, dat_shaped h3, ?_⟩)
    rw [any_pys]
    exact k
  · cases d_str r1
    cases d_str r2
    exact .inr (.inr ⟨i, j, rfl, rfl, k⟩)
theorem op_isB2 : OpR X (compareOp .Is) (fun x y H Q => ∃ b, y = .bl b ∧ Q (.bl (decide (x = .bl b))) H) := by
  intro pins s σ H x y v u Q I rx ry h
  obtain ⟨b, rfl, q⟩ := h
  cases (show u = Value.bool b from ry)
  by_cases e : x = .bl b
  · subst e
    cases (show v = Value.bool b from rx)
    exact wpAny_is_self rfl ⟨.bl true, H, I, rfl, by simpa using q⟩
  · have q2 : Q (.bl false) H := by simpa [e] using q
    cases x with
    | non => cases rx; exact wpAny_is_other rfl (fun z => nomatch z) ⟨.bl false, H, I, rfl, q2⟩
    | bl c => cases rx; exact wpAny_is_other rfl (fun z => e (by cases z; rfl)) ⟨.bl false, H, I, rfl, q2⟩
    | int c => obtain ⟨t, rfl⟩ := rx; exact wpAny_is_other rfl (fun z => nomatch z) ⟨.bl false, H, I, rfl, q2⟩
    | str c => obtain ⟨t, rfl⟩ := rx; exact wpAny_is_other rfl (fun z => nomatch z) ⟨.bl false, H, I, rfl, q2⟩
    | byt c => obtain ⟨t, rfl⟩ := rx; exact wpAny_is_other rfl (fun z => nomatch z) ⟨.bl false, H, I, rfl, q2⟩
    | flt c => obtain ⟨t, rfl⟩ := rx; exact wpAny_is_other rfl (fun z => nomatch z) ⟨.bl false, H, I, rfl, q2⟩
    | ref c => cases rx; exact wpAny_is_other rfl (fun z => nomatch z) ⟨.bl false, H, I, rfl, q2⟩
    | ty c => cases rx; exact wpAny_is_other rfl (fun z => nomatch z) ⟨.bl false, H, I, rfl, q2⟩
theorem op_notB2 : OpR X (compareOp .IsNot) (fun x y H Q => ∃ b, y = .bl b ∧ Q (.bl (!decide (x = .bl b))) H) := by
  intro pins s σ H x y v u Q I rx ry h
  obtain ⟨b, rfl, q⟩ := h
  cases (show u = Value.bool b from ry)
  by_cases e : x = .bl b
  · subst e
    cases (show v = Value.bool b from rx)
    exact wpAny_isNot_self rfl ⟨.bl false, H, I, rfl, by simpa using q⟩
  · have q2 : Q (.bl true) H := by simpa [e] using q
    cases x with
    | non => cases rx; exact wpAny_isNot_other rfl (fun z => nomatch z) ⟨.bl true, H, I, rfl, q2⟩
    | bl c => cases rx; exact wpAny_isNot_other rfl (fun z => e (by cases z; rfl)) ⟨.bl true, H, I, rfl, q2⟩
    | int c => obtain ⟨t, rfl⟩ := rx; exact wpAny_isNot_other rfl (fun z => nomatch z) ⟨.bl true, H, I, rfl, q2⟩
    | str c => obtain ⟨t, rfl⟩ := rx; exact wpAny_isNot_other rfl (fun z => nomatch z) ⟨.bl true, H, I, rfl, q2⟩
    | byt c => obtain ⟨t, rfl⟩ := rx; exact wpAny_isNot_other rfl (fun z => nomatch z) ⟨.bl true, H, I, rfl, q2⟩
    | flt c => obtain ⟨t, rfl⟩ := rx; exact wpAny_isNot_other rfl (fun z => nomatch z) ⟨.bl true, H, I, rfl, q2⟩
    | ref c => cases rx; exact wpAny_isNot_other rfl (fun z => nomatch z) ⟨.bl true, H, I, rfl, q2⟩
    | ty c => cases rx; exact wpAny_isNot_other rfl (fun z => nomatch z) ⟨.bl true, H, I, rfl, q2⟩
theorem is_R : OpR X (compareOp .Is) (fun x y H Q => (y = .non ∧ Q (.bl (decide (x = .non))) H) ∨ ∃ b, y = .bl b ∧ Q (.bl (decide (x = .bl b))) H) := OpR.or op_isN op_isB2
theorem isnot_R : OpR X (compareOp .IsNot) (fun x y H Q => (y = .non ∧ Q (.bl (!decide (x = .non))) H) ∨ ∃ b, y = .bl b ∧ Q (.bl (!decide (x = .bl b))) H) := OpR.or op_notN op_notB2
theorem non_of {K : PySem.W.Frag} {P : Addr} {F H : Hp} {d : D} {v : V} (h : Rep1 K P F H d v) : decide (v = .non) = d.isNon := by
  cases d with
  | non => cases d_non h; rfl
  | bl b => cases d_bl h; rfl
  | int i => cases d_int h; rfl
  | str x => cases d_str h; rfl
  | lst xs => obtain ⟨a, vs, rfl, _⟩ := h; rfl
  | tup xs => obtain ⟨a, vs, rfl, _⟩ := d_tup h; rfl
  | wtup xs =>
    have h : Rep K P F (.wtup xs) v := h
    unfold Rep at h
    obtain ⟨a, vs, rfl, _⟩ := h
    rfl
  | ins c fs =>
    have h : Rep K P F (.ins c fs) v := h
    unfold Rep at h
    obtain ⟨a, dx, gs, rfl, _⟩ := h
    rfl
  | fn f =>
    have h : Rep K P F (.fn f) v := h
    unfold Rep at h
    subst h
    rfl
  | pen =>
    have h : Rep K P F .pen v := h
    unfold Rep at h
    subst h
    rfl
theorem bl_of {K : PySem.W.Frag} {P : Addr} {F H : Hp} {c : Bool} {d : D} {v : V} (h : Rep1 K P F H d v) : decide (v = .bl c) = d.isBl c := by
  cases d with
  | non => cases d_non h; rfl
  | bl b =>
    cases d_bl h
    show decide (V.bl b = V.bl c) = decide (b = c)
    simp
  | int i => cases d_int h; rfl
  | str x => cases d_str h; rfl
  | lst xs => obtain ⟨a, vs, rfl, _⟩ := h; rfl
  | tup xs => obtain ⟨a, vs, rfl, _⟩ := d_tup h; rfl
  | wtup xs =>
    have h : Rep K P F (.wtup xs) v := h
    unfold Rep at h
    obtain ⟨a, vs, rfl, _⟩ := h
    rfl
  | ins c fs =>
    have h : Rep K P F (.ins c fs) v := h
    unfold Rep at h
    obtain ⟨a, dx, gs, rfl, _⟩ := h
    rfl
  | fn f =>
    have h : Rep K P F (.fn f) v := h
    unfold Rep at h
    subst h
    rfl
  | pen =>
    have h : Rep K P F .pen v := h
    unfold Rep at h
    subst h
    rfl
theorem is_B {K : PySem.W.Frag} : OpB K (fun x y H Q => (y = .non ∧ Q (.bl (decide (x = .non))) H) ∨ ∃ b, y = .bl b ∧ Q (.bl (decide (x = .bl b))) H) gIs := by
  intro P F H x y v u b Q p pa s r1 r2 e k
  unfold gIs at e
  split at e
  · cases d_non r2
    simp only [Option.some.injEq] at e
    refine .inl ⟨rfl, ?_⟩
    rw [non_of r1, e]
    exact k
  · cases d_bl r2
    simp only [Option.some.injEq] at e
    refine .inr ⟨_, rfl, ?_⟩
    rw [bl_of r1, e]
    exact k
  · cases e
theorem isnot_B {K : PySem.W.Frag} : OpB K (fun x y H Q => (y = .non ∧ Q (.bl (!decide (x = .non))) H) ∨ ∃ b, y = .bl b ∧ Q (.bl (!decide (x = .bl b))) H) gIsNot := by
  intro P F H x y v u b Q p pa s r1 r2 e k
  unfold gIsNot at e
  split at e
  · cases d_non r2
    simp only [Option.some.injEq] at e
    refine .inl ⟨rfl, ?_⟩
    rw [non_of r1, e]
    exact k
  · cases d_bl r2
    simp only [Option.some.injEq] at e
    refine .inr ⟨_, rfl, ?_⟩
    rw [bl_of r1, e]
    exact k
  · cases e
end
end Dn
set_option Elab.async false
set_option linter.all false
set_option maxRecDepth 100000
set_option maxHeartbeats 4000000
/-! Dn 3: arguments, displays, built-in calls, subscripts, slices, fields. -/
namespace Dn
open PySem PySem.Spec PyProof.Rows L2

def notStar : Expr → Bool
  | .Starred _ _ => false
  | _ => true
theorem star_plain {e : Expr} {es : List Expr} {env : PySem.Env} (h : notStar e = true) : starEach (e :: es) env = (false, eval e env) :: starEach es env := by
  cases e <;> first | rfl | cases h
theorem stars_none {env : PySem.Env} {pos : Pos} : ∀ {es : List Expr}, es.all notStar = true → (backTo pos (starEach es env)).any (·.1) = false
  | [], _ => rfl
  | e :: es, h => by
    rw [List.all_cons, Bool.and_eq_true] at h
    rw [star_plain h.1]
    show (false || (backTo pos (starEach es env)).any (·.1)) = false
    rw [stars_none h.2]
    rfl

/-! ### arguments -/
def lNil : DL := fun _ p => some ([], p)
def lCons (f : DE) (l : DL) : DL := fun ρ p => (f ρ p).bind fun x => (l ρ x.2).map fun y => (x.1 :: y.1, y.2)
def D.its : D → Option (List D)
  | .lst xs => some xs
  | .tup xs => some xs
  | _ => none
def lStar (f : DE) (l : DL) : DL := fun ρ p => (f ρ p).bind fun x => x.1.its.bind fun xs => (l ρ x.2).map fun y => (xs ++ y.1, y.2)
section
variable {K : PySem.W.Frag} {P : Addr} {F H : Hp}
theorem its_of {d : D} {v : V} {xs : List D} (h : Rep1 K P F H d v) (s : Sub F H) (e : d.its = some xs) : ∃ a vs, v = .ref a ∧ (SqT K H a vs ∨ SqL K H a vs) ∧ vs.length ≤ sizeLine ∧ Reps K P F xs vs := by
  cases d with
  | lst ys =>
    cases e
    obtain ⟨a, vs, rfl, q, z, r⟩ := h
    exact ⟨a, vs, rfl, .inr (SqL.of q), z, r⟩
  | tup ys =>
    cases e
    obtain ⟨a, vs, rfl, q, z, r⟩ := d_tup h
    exact ⟨a, vs, rfl, .inl (s.sqT q.t), z, r⟩
  | _ => cases e
end
section
variable {X : Cx} {e : Expr} {es : List Expr} {f : DE} {l : DL} {pos p : Pos}
theorem xa_nil : PA X [] (cA X.K lNil) := PA.imp pa_nil fun σ H Q ⟨P, F0, G0, F, ρ, p, d, p', R, e, k⟩ => by
  simp only [lNil, Option.some.injEq, Prod.mk.injEq] at e
  obtain ⟨rfl, rfl⟩ := e
  exact k [] F H (Step.refl R.sub) R.pen Reps.nil
theorem xb_nil : PA X [] (cAB X.K lNil) := PA.imp pa_nil fun σ H Q ⟨P, F0, G0, F, ρ, p, d, p', R, e, k⟩ => by
  simp only [lNil, Option.some.injEq, Prod.mk.injEq] at e
  obtain ⟨rfl, rfl⟩ := e
  exact k [] F H (Step.refl R.sub) R.pen (by unfold Reps1; rfl)
theorem xa_cons (h : PE X e (cE X.K f)) (t : PA X es (cA X.K l)) (n : notStar e = true) : PA X (e :: es) (cA X.K (lCons f l)) := PA.imp (pa_cons h t (star_plain n)) fun σ H Q ⟨P, F0, G0, F, ρ, p, d, p', R, e, k⟩ => by
  simp only [lCons, Option.bind_eq_some_iff, Option.map_eq_some_iff, Prod.mk.injEq] at e
  obtain ⟨⟨x, p1⟩, e1, ⟨y, p2⟩, e2, rfl, rfl⟩ := e
  exact ⟨P, F0, G0, F, ρ, p, x, p1, R, e1, fun v F1 H1 s1 q1 r1 => ⟨P, F0, G0, F1, ρ, p1, y, p2, R.go s1 q1, e2, fun vs F2 H2 s2 q2 r2 => k _ F2 H2 (s1.trans s2 q1.thr) q2 (Reps.cons (r1.mono s2.ff) r2)⟩⟩
theorem xb_cons (h : PE X e (cB X.K f)) (t : PA X es (cAB X.K l)) (n : notStar e = true) : PA X (e :: es) (cAB X.K (lCons f l)) := PA.imp (pa_cons h t (star_plain n)) fun σ H Q ⟨P, F0, G0, F, ρ, p, d, p', R, e, k⟩ => by
  simp only [lCons, Option.bind_eq_some_iff, Option.map_eq_some_iff, Prod.mk.injEq] at e
  obtain ⟨⟨x, p1⟩, e1, ⟨y, p2⟩, e2, rfl, rfl⟩ := e
  exact ⟨P, F0, G0, F, ρ, p, x, p1, R, e1, fun v F1 H1 s1 q1 r1 => ⟨P, F0, G0, F1, ρ, p1, y, p2, R.go s1 q1, e2, fun vs F2 H2 s2 q2 r2 => k _ F2 H2 (s1.trans s2 q1.thr) q2 (by
    unfold Reps1
    exact ⟨v, vs, rfl, r1.go s2 q1.dk, r2⟩)⟩⟩
theorem xa_star (h : PE X e (cB X.K f)) (t : PA X es (cA X.K l)) : PA X (.Starred e p :: es) (cA X.K (lStar f l)) := PA.imp (StX.pa_star h t) fun σ H Q ⟨P, F0, G0, F, ρ, p, d, p', R, e, k⟩ => by
  simp only [lStar, Option.bind_eq_some_iff, Option.map_eq_some_iff, Prod.mk.injEq] at e
  obtain ⟨⟨x, p1⟩, e1, xs, e3, ⟨y, p2⟩, e2, rfl, rfl⟩ := e
  refine ⟨P, F0, G0, F, ρ, p, x, p1, R, e1, fun v F1 H1 s1 q1 r1 => ?_⟩
  obtain ⟨a, vs, rfl, h1, z, r⟩ := its_of r1 s1.fh e3
  exact ⟨a, vs, rfl, h1, ⟨P, F0, G0, F1, ρ, p1, y, p2, R.go s1 q1, e2, fun ws F2 H2 s2 q2 r2 => k _ F2 H2 (s1.trans s2 q1.thr) q2 ((r.mono s2.ff).append r2)⟩⟩
/-- a tuple, a list of written items -/
def eTup (l : DL) : DE := fun ρ p => (l ρ p).bind fun x => if x.1.length ≤ sizeLine then some (.tup x.1, x.2) else none
def lDisp (l : DL) : DL := fun ρ p => (l ρ p).bind fun x => if x.1.length ≤ sizeLine then some x else none
theorem x_tup {k : Nat} (h : PA X es (cA X.K l)) : PE X (.Tuple es k pos) (cE X.K (eTup l)) := PE.imp (pe_tupZ h) fun σ H Q ⟨P, F0, G0, F, ρ, p, d, p', R, e, k⟩ => by
  simp only [eTup, Option.bind_eq_some_iff] at e
  obtain ⟨⟨xs, p1⟩, e1, e2⟩ := e
  split at e2
  · rename_i hz
    simp only [Option.some.injEq, Prod.mk.injEq] at e2
    obtain ⟨rfl, rfl⟩ := e2
    refine ⟨P, F0, G0, F, ρ, p, xs, p1, R, e1, fun vs F1 H1 s1 q1 r1 => ?_⟩
    have z : vs.length ≤ sizeLine := by rw [← r1.length]; exact hz
    exact ⟨z, new_tup s1.fh z r1 fun w F' H' t rw => k w F' H' (s1.trans (t.step P) q1.thr) (q1.ext t) rw⟩
  · cases e2
theorem Step.back {P : Addr} {F F' H H' : Hp} (s : Step P F H F' H') (n : H' P ≠ none) {a : Addr} (h : H' a = none) : H a = none := by
  cases e : H a with
  | none => rfl
  | some o =>
    by_cases ha : a = P
    · subst ha
      exact absurd h n
    · rw [s.hh _ _ ha e] at h
      cases h
theorem Sub.no {F H : Hp} (s : Sub F H) {a : Addr} (h : H a = none) : F a = none := by
  cases e : F a with
  | none => rfl
  | some o =>
    rw [s _ _ e] at h
    cases h
/-- a new list, not frozen -/
theorem new_lst {K : PySem.W.Frag} {P : Addr} {F0 H0 F H : Hp} {p : Pen} {xs : List D} {vs : List V} {Q : VK} (s : Step P F0 H0 F H) (q : PenAt K P F H p) (z : vs.length ≤ sizeLine) (r : Reps K P F xs vs)
    (k : ∀ a vs F' H', Step P F0 H0 F' H' → PenAt K P F' H' p → H0 a = none → F' a = none → H' a = some (.lst vs) → vs.length ≤ sizeLine → Reps K P F' xs vs → Q (.ref a) H') : ∀ a, H a = none → Q (.ref a) (upd H a (.lst vs)) := fun a ha => by
  have E : Ext F H F (upd H a (.lst vs)) := Ext.loose s.fh ha
  exact k a vs F _ (s.trans (E.step P) q.thr) (q.ext E) (s.back q.thr ha) (s.fh.no ha) upd_same z r
theorem x_lst (h : PA X es (cA X.K l)) : PE X (.List es pos) (cF X.K (lDisp l)) := PE.imp (pe_lst h) fun σ H Q ⟨P, F0, G0, F, ρ, p, d, p', R, e, k⟩ => by
  simp only [lDisp, Option.bind_eq_some_iff] at e
  obtain ⟨⟨xs, p1⟩, e1, e2⟩ := e
  split at e2
  · rename_i hz
    simp only [Option.some.injEq, Prod.mk.injEq] at e2
    obtain ⟨rfl, rfl⟩ := e2
    refine ⟨P, F0, G0, F, ρ, p, xs, p1, R, e1, fun vs F1 H1 s1 q1 r1 => ?_⟩
    have z : vs.length ≤ sizeLine := by rw [← r1.length]; exact hz
    exact ⟨z, new_lst s1 q1 z r1 k⟩
  · cases e2

/-! ### calls of built-ins by name -/
def CallD (K : PySem.W.Frag) (r : List V → Hp → VK → Prop) (g : List D → Option D) : Prop := ∀ P F H ds vs d Q p, PenAt K P F H p → Sub F H → Reps1 K P F H ds vs → g ds = some d →
  (∀ w F' H', Ext F H F' H' → Rep K P F' d w → Q w H') → r vs H Q
def CallL (K : PySem.W.Frag) (r : List V → Hp → VK → Prop) (g : List D → Option (List D)) : Prop := ∀ P F H ds vs xs Q p, PenAt K P F H p → Sub F H → Reps1 K P F H ds vs → g ds = some xs →
  (∀ us a, H a = none → us.length ≤ sizeLine → Reps K P F xs us → Q (.ref a) (upd H a (.lst us))) → r vs H Q
def eCall (g : List D → Option D) (l : DL) : DE := fun ρ p => (l ρ p).bind fun x => (g x.1).map fun d => (d, x.2)
def lCall (g : List D → Option (List D)) (l : DL) : DL := fun ρ p => (l ρ p).bind fun x => (g x.1).map fun d => (d, x.2)
theorem call_c {r : List V → Hp → VK → Prop} {g : List D → Option D} {K : PySem.W.Frag} {σ : L2.St} {H : Hp} {Q : VK} (hg : CallD K r g) (h : cE K (eCall g l) σ H Q) : tCB r (cAB K l) σ H Q := by
  obtain ⟨P, F0, G0, F, ρ, p, d, p', R, e, k⟩ := h
  simp only [eCall, Option.bind_eq_some_iff, Option.map_eq_some_iff, Prod.mk.injEq] at e
  obtain ⟨⟨xs, p1⟩, e1, d', e2, rfl, rfl⟩ := e
  exact ⟨P, F0, G0, F, ρ, p, xs, p1, R, e1, fun vs F1 H1 s1 q1 r1 => hg P F1 H1 xs vs d' Q p1 q1 s1.fh r1 e2 fun w F' H' t rw => k w F' H' (s1.trans (t.step P) q1.thr) (q1.ext t) rw⟩
theorem call_f {r : List V → Hp → VK → Prop} {g : List D → Option (List D)} {K : PySem.W.Frag} {σ : L2.St} {H : Hp} {Q : VK} (hg : CallL K r g) (h : cF K (lCall g l) σ H Q) : tCB r (cAB K l) σ H Q := by
  obtain ⟨P, F0, G0, F, ρ, p, d, p', R, e, k⟩ := h
  simp only [lCall, Option.bind_eq_some_iff, Option.map_eq_some_iff, Prod.mk.injEq] at e
  obtain ⟨⟨xs, p1⟩, e1, d', e2, rfl, rfl⟩ := e
  exact ⟨P, F0, G0, F, ρ, p, xs, p1, R, e1, fun vs F1 H1 s1 q1 r1 => hg P F1 H1 xs vs d' Q p1 q1 s1.fh r1 e2 fun us a ha z rr => new_lst s1 q1 z rr k a ha⟩
variable {x : Str} {pn : Pos} {id T : String} {r : List V → Hp → VK → Prop}
theorem x_callB {g : List D → Option D} (hc : CallR X (.builtin id) r) (hg : CallD X.K r g) (hG : Gl X x) (hm : X.mg x = none) (hv : bootBuiltins x = some (.builtin id)) (ha : PA X (e :: es) (cAB X.K l)) (hn : x ≠ "__name__") (hdb : (x == ("__debug__" : Str)) = false)
    (n : (e :: es).all notStar = true) : PE X (.Call (.Name x pn) (e :: es) [] pos) (cE X.K (eCall g l)) := by
  rw [List.all_cons, Bool.and_eq_true] at n
  exact PE.imp (pe_callB hc hG hm hv ha hn hdb (star_plain n.1) (stars_none n.2)) fun _ _ _ h => call_c hg h
theorem x_callT {g : List D → Option D} (hc : CallR X (.type T) r) (hg : CallD X.K r g) (hG : Gl X x) (hm : X.mg x = none) (hv : bootBuiltins x = some (.type T)) (ha : PA X (e :: es) (cAB X.K l)) (hn : x ≠ "__name__") (hdb : (x == ("__debug__" : Str)) = false)
    (n : (e :: es).all notStar = true) : PE X (.Call (.Name x pn) (e :: es) [] pos) (cE X.K (eCall g l)) := by
  rw [List.all_cons, Bool.and_eq_true] at n
  exact PE.imp (pe_callTy hc hG hm hv ha hn hdb (star_plain n.1) (stars_none n.2)) fun _ _ _ h => call_c hg h
theorem x_callBL {g : List D → Option (List D)} (hc : CallR X (.builtin id) r) (hg : CallL X.K r g) (hG : Gl X x) (hm : X.mg x = none) (hv : bootBuiltins x = some (.builtin id)) (ha : PA X (e :: es) (cAB X.K l)) (hn : x ≠ "__name__") (hdb : (x == ("__debug__" : Str)) = false)
    (n : (e :: es).all notStar = true) : PE X (.Call (.Name x pn) (e :: es) [] pos) (cF X.K (lCall g l)) := by
  rw [List.all_cons, Bool.and_eq_true] at n
  exact PE.imp (pe_callB hc hG hm hv ha hn hdb (star_plain n.1) (stars_none n.2)) fun _ _ _ h => call_f hg h
theorem x_callTL {g : List D → Option (List D)} (hc : CallR X (.type T) r) (hg : CallL X.K r g) (hG : Gl X x) (hm : X.mg x = none) (hv : bootBuiltins x = some (.type T)) (ha : PA X (e :: es) (cAB X.K l)) (hn : x ≠ "__name__") (hdb : (x == ("__debug__" : Str)) = false)
    (n : (e :: es).all notStar = true) : PE X (.Call (.Name x pn) (e :: es) [] pos) (cF X.K (lCall g l)) := by
  rw [List.all_cons, Bool.and_eq_true] at n
  exact PE.imp (pe_callTy hc hG hm hv ha hn hdb (star_plain n.1) (stars_none n.2)) fun _ _ _ h => call_f hg h
end

/-! ### the built-ins' meanings -/
theorem reps1_1 {K : PySem.W.Frag} {P : Addr} {F H : Hp} {x : D} {vs : List V} (h : Reps1 K P F H [x] vs) : ∃ v, vs = [v] ∧ Rep1 K P F H x v := by
  unfold Reps1 at h
  obtain ⟨v, r, rfl, q, t⟩ := h
  unfold Reps1 at t
  subst t
  exact ⟨v, rfl, q⟩
theorem reps1_2 {K : PySem.W.Frag} {P : Addr} {F H : Hp} {x y : D} {vs : List V} (h : Reps1 K P F H [x, y] vs) : ∃ v u, vs = [v, u] ∧ Rep1 K P F H x v ∧ Rep1 K P F H y u := by
  unfold Reps1 at h
  obtain ⟨v, r, rfl, q, t⟩ := h
  obtain ⟨u, rfl, q2⟩ := reps1_1 t
  exact ⟨v, u, rfl, q, q2⟩
def g1 (f : D → Option D) : List D → Option D
  | [x] => f x
  | _ => none
def g2 (f : D → D → Option D) : List D → Option D
  | [x, y] => f x y
  | _ => none
def h1 (f : D → Option (List D)) : List D → Option (List D)
  | [x] => f x
  | _ => none
section
variable {K : PySem.W.Frag}
theorem CallD.one {r : List V → Hp → VK → Prop} {f : D → Option D} (h : ∀ P F H x v d Q p, PenAt K P F H p → Sub F H → Rep1 K P F H x v → f x = some d → (∀ w F' H', Ext F H F' H' → Rep K P F' d w → Q w H') → r [v] H Q) : CallD K r (g1 f) := by
  intro P F H ds vs d Q p pa s rr e k
  unfold g1 at e
  split at e
  · obtain ⟨v, rfl, q⟩ := reps1_1 rr
    exact h P F H _ v d Q p pa s q e k
  · cases e
theorem CallD.two {r : List V → Hp → VK → Prop} {f : D → D → Option D} (h : ∀ P F H x y v u d Q p, PenAt K P F H p → Sub F H → Rep1 K P F H x v → Rep1 K P F H y u → f x y = some d → (∀ w F' H', Ext F H F' H' → Rep K P F' d w → Q w H') → r [v, u] H Q) : CallD K r (g2 f) := by
  intro P F H ds vs d Q p pa s rr e k
  unfold g2 at e
  split at e
  · obtain ⟨v, u, rfl, q, q2⟩ := reps1_2 rr
    exact h P F H _ _ v u d Q p pa s q q2 e k
  · cases e
theorem CallL.one {r : List V → Hp → VK → Prop} {f : D → Option (List D)} (h : ∀ P F H x v xs Q p, PenAt K P F H p → Sub F H → Rep1 K P F H x v → f x = some xs → (∀ us a, H a = none → us.length ≤ sizeLine → Reps K P F xs us → Q (.ref a) (upd H a (.lst us))) → r [v] H Q) : CallL K r (h1 f) := by
  intro P F H ds vs d Q p pa s rr e k
  unfold h1 at e
  split at e
  · obtain ⟨v, rfl, q⟩ := reps1_1 rr
    exact h P F H _ v d Q p pa s q e k
  · cases e
end
/-- len -/
def gLen : D → Option D
  | .lst xs => some (.int xs.length)
  | .tup xs => some (.int xs.length)
  | .str x => if x.length ≤ sizeLine then some (.int x.length) else none
  | _ => none
section
variable {X : Cx} {K : PySem.W.Frag}
theorem len_D : CallD K (fun xs H Q => ∃ x n, xs = [x] ∧ LenV K x H n ∧ Q (.int n) H) (g1 gLen) := CallD.one fun P F H x v d Q p pa s r e k => by
  cases x with
  | lst xs =>
    obtain ⟨a, vs, rfl, q, z, t⟩ := r
    cases e
    exact ⟨_, vs.length, rfl, .inl ⟨vs, SqL.of q, rfl⟩, by rw [← t.length]; exact k _ F H (Ext.refl s) r_int⟩
  | tup xs =>
    obtain ⟨a, vs, rfl, q, z, t⟩ := d_tup r
    cases e
    exact ⟨_, vs.length, rfl, .inr ⟨vs, s.sqT q.t, rfl⟩, by rw [← t.length]; exact k _ F H (Ext.refl s) r_int⟩
  | str x =>
    cases d_str r
    simp only [gLen] at e
    split at e
    · rename_i hz
      cases e
      exact ⟨_, x.length, rfl, ⟨hz, rfl⟩, k _ F H (Ext.refl s) r_int⟩
    · cases e
  | _ => cases e
/-- list, tuple of a list or tuple -/
theorem listof_L : CallL K (fun xs H Q => ∃ p ys, xs = [.ref p] ∧ (SqL K H p ys ∨ SqT K H p ys) ∧ ∀ l, H l = none → Q (.ref l) (upd H l (.lst ys))) (h1 D.its) := CallL.one fun P F H x v xs Q p pa s r e k => by
  obtain ⟨a, vs, rfl, h1, z, t⟩ := its_of r s e
  exact ⟨a, vs, rfl, h1.symm, fun l hl => k vs l hl z t⟩
def gTup (x : D) : Option D := x.its.map .tup
theorem tupof_D : CallD K (fun xs H Q => ∃ p ys, xs = [.ref p] ∧ ((SqL K H p ys ∧ NewT ys H Q) ∨ (SqT K H p ys ∧ Q (.ref p) H))) (g1 gTup) := CallD.one fun P F H x v d Q p pa s r e k => by
  obtain ⟨xs, e1, rfl⟩ := Option.map_eq_some_iff.mp e
  cases x with
  | lst ys =>
    cases e1
    obtain ⟨a, vs, rfl, q, z, t⟩ := r
    exact ⟨a, vs, rfl, .inl ⟨SqL.of q, new_tup s z t k⟩⟩
  | tup ys =>
    have r' : Rep K P F (.tup ys) v := r
    have e2 : ys = xs := Option.some.inj e1
    rw [e2] at r'
    obtain ⟨a, vs, rfl, q, z, t⟩ := d_tup r
    exact ⟨a, vs, rfl, .inr ⟨s.sqT q.t, k _ F H (Ext.refl s) r'⟩⟩
  | _ => cases e1
/-- int(n), int(True), bool .. -/
def gInt : D → Option D
  | .int i => some (.int i)
  | .bl b => some (.int (if b then 1 else 0))
  | _ => none
theorem int_D : CallD K (fun xs H Q => (∃ i, xs = [.int i] ∧ Q (.int i) H) ∨ ∃ k, xs = [.bl k] ∧ Q (.int (if k then 1 else 0)) H) (g1 gInt) := CallD.one fun P F H x v d Q p pa s r e k => by
  cases x with
  | int i =>
    cases d_int r
    cases e
    exact .inl ⟨i, rfl, k _ F H (Ext.refl s) r_int⟩
  | bl b =>
    cases d_bl r
    cases e
    exact .inr ⟨b, rfl, k _ F H (Ext.refl s) r_int⟩
  | _ => cases e
def gAbs : D → Option D
  | .int i => some (.int (if i < 0 then -i else i))
  | _ => none
theorem abs_D : CallD K (fun xs H Q => ∃ i, xs = [.int i] ∧ Q (.int (if i < 0 then -i else i)) H) (g1 gAbs) := CallD.one fun P F H x v d Q p pa s r e k => by
  cases x with
  | int i =>
    cases d_int r
    cases e
    exact ⟨i, rfl, k _ F H (Ext.refl s) r_int⟩
  | _ => cases e
def gStr : D → Option D
  | .int i => if i.natAbs.log2 < 1920 then some (.str (toString i)) else none
  | _ => none
theorem str_D : CallD K (fun xs H Q => ∃ i, xs = [.int i] ∧ i.natAbs.log2 < 1920 ∧ Q (.str (toString i)) H) (g1 gStr) := CallD.one fun P F H x v d Q p pa s r e k => by
  cases x with
  | int i =>
    cases d_int r
    by_cases hz : i.natAbs.log2 < 1920
    · have e2 : some (D.str (toString i)) = some d := by
        rw [← e]
        exact (if_pos hz).symm
      cases e2
      exact ⟨i, rfl, hz, k _ F H (Ext.refl s) r_str⟩
    · have e2 : none = some d := by
        rw [← e]
        exact (if_neg hz).symm
      cases e2
  | _ => cases e
/-- the bools of a list -/
def blsOf : List D → Option (List Bool)
  | [] => some []
  | .bl i :: xs => (blsOf xs).map (i :: ·)
  | _ :: _ => none
theorem blsOf_eq : ∀ {xs : List D} {ns : List Bool}, blsOf xs = some ns → xs = ns.map D.bl
  | [], ns, h => by
    unfold blsOf at h
    cases h
    rfl
  | .bl i :: xs, ns, h => by
    unfold blsOf at h
    obtain ⟨ms, h1, rfl⟩ := Option.map_eq_some_iff.mp h
    rw [blsOf_eq h1]
    rfl
  | .non :: _, _, h | .int _ :: _, _, h | .str _ :: _, _, h | .lst _ :: _, _, h | .tup _ :: _, _, h | .wtup _ :: _, _, h | .ins _ _ :: _, _, h | .fn _ :: _, _, h | .pen :: _, _, h => by
    unfold blsOf at h
    cases h
theorem blsOf_map : ∀ ns : List Bool, blsOf (ns.map D.bl) = some ns
  | [] => rfl
  | n :: ns => by rw [List.map_cons, blsOf, blsOf_map ns]; rfl
theorem Reps.bls_inv {K : PySem.W.Frag} {P : Addr} {F : Hp} : ∀ {ns : List Bool} {vs : List V}, Reps K P F (ns.map D.bl) vs → vs = ns.map V.bl
  | [], vs, h => by
    unfold Reps at h
    exact h
  | n :: ns, vs, h => by
    obtain ⟨v, r, rfl, q, t⟩ := Reps.inv h
    unfold Rep at q
    subst q
    rw [Reps.bls_inv t]
    rfl
def gAll : D → Option D
  | .lst xs => (blsOf xs).map fun bs => .bl (bs.all id)
  | _ => none
def gAny : D → Option D
  | .lst xs => (blsOf xs).map fun bs => .bl (bs.any id)
  | _ => none
def gSum : D → Option D
  | .lst xs => (intsOf xs).map fun bs => .int bs.sum
  | _ => none
theorem all_D : CallD K (rAll K) (g1 gAll) := CallD.one fun P F H x v d Q p pa s r e k => by
  cases x with
  | lst xs =>
    obtain ⟨bs, e1, rfl⟩ := Option.map_eq_some_iff.mp e
    have h := blsOf_eq e1
    subst h
    obtain ⟨a, vs, rfl, q, z, t⟩ := d_lst r
    have h := Reps.bls_inv t
    subst h
    exact ⟨a, bs, rfl, q, k _ F H (Ext.refl s) r_bl⟩
  | _ => cases e
theorem any_D : CallD K (rAny K) (g1 gAny) := CallD.one fun P F H x v d Q p pa s r e k => by
  cases x with
  | lst xs =>
    obtain ⟨bs, e1, rfl⟩ := Option.map_eq_some_iff.mp e
    have h := blsOf_eq e1
    subst h
    obtain ⟨a, vs, rfl, q, z, t⟩ := d_lst r
    have h := Reps.bls_inv t
    subst h
    exact ⟨a, bs, rfl, q, k _ F H (Ext.refl s) r_bl⟩
  | _ => cases e
theorem sum_D : CallD K (rSum K) (g1 gSum) := CallD.one fun P F H x v d Q p pa s r e k => by
  cases x with
  | lst xs =>
    obtain ⟨bs, e1, rfl⟩ := Option.map_eq_some_iff.mp e
    have h := intsOf_eq e1
    subst h
    obtain ⟨a, vs, rfl, q, z, t⟩ := d_lst r
    have h := Reps.ints_inv t
    subst h
    exact ⟨a, bs, rfl, q, k _ F H (Ext.refl s) r_int⟩
  | _ => cases e
end
end Dn
set_option Elab.async false
set_option linter.all false
set_option maxRecDepth 100000
set_option maxHeartbeats 4000000
/-! Dn 4: subscripts, slices, fields, isinstance, sorted, calls of own defs, own classes. -/
namespace Dn
open PySem PySem.Spec PyProof.Rows L2

/-! ### subscripts -/
def notSlice : Expr → Bool
  | .Slice _ _ _ _ => false
  | _ => true
theorem plainIx_of {e : Expr} (h : notSlice e = true) : PlainIx e := fun _ _ => by
  cases e <;> first | rfl | cases h
def gIx : D → D → Option D
  | .lst xs, .int i => atI xs i
  | .tup xs, .int i => atI xs i
  | .str z, .int i => if z.length ≤ sizeLine then (atI z.cps.toList i).map fun c => .str ⟨#[c]⟩ else none
  | _, _ => none
theorem Reps.atI {K : PySem.W.Frag} {P : Addr} {F : Hp} {xs : List D} {vs : List V} {i : Int} {d : D} (h : Reps K P F xs vs) (e : L2.atI xs i = some d) : ∃ v, L2.atI vs i = some v ∧ Rep K P F d v := by
  unfold L2.atI at e ⊢
  rw [h.length] at e
  obtain ⟨j, e1, e2⟩ := Option.bind_eq_some_iff.mp e
  obtain ⟨v, e3, r⟩ := h.get e2
  exact ⟨v, by rw [e1]; exact e3, r⟩
section
variable {X : Cx} {K : PySem.W.Frag} {a b o : Expr} {fa fb fc : DE} {pos p2 : Pos}
theorem ix_D : OpD K (rIx K) gIx := by
  intro P F H x y v u d Q p pa s r1 r2 e k
  unfold gIx at e
  split at e
  · cases d_int r2
    obtain ⟨a, vs, rfl, q, z, t⟩ := d_lst r1
    obtain ⟨w, e1, r⟩ := t.atI e
    exact .inl ⟨a, vs, _, w, rfl, rfl, q, e1, k w F H (Ext.refl s) r⟩
  · cases d_int r2
    obtain ⟨a, vs, rfl, q, z, t⟩ := d_tup r1
    obtain ⟨w, e1, r⟩ := t.atI e
    exact .inr (.inl ⟨a, vs, _, w, rfl, rfl, s.sqT q.t, e1, k w F H (Ext.refl s) r⟩)
  · cases d_int r2
    cases d_str r1
    split at e
    · rename_i hz
      obtain ⟨c, e1, rfl⟩ := Option.map_eq_some_iff.mp e
      exact .inr (.inr ⟨_, _, c, rfl, rfl, hz, e1, k _ F H (Ext.refl s) r_str⟩)
    · cases e
  · cases e
theorem x_ix (ha : PE X a (cB X.K fa)) (hb : PE X b (cB X.K fb)) (h : notSlice b = true) : PE X (.Subscript a b pos) (cE X.K (eBin gIx fa fb)) :=
  PE.imp (pe_ix ix_seq ha hb (plainIx_of h)) fun _ _ _ z => op2 ix_D z
/-! slices: an end that is not there, or an int -/
def oNo : Env → Pen → Option (Option Int × Pen) := fun _ p => some (none, p)
def oSo (f : DE) : Env → Pen → Option (Option Int × Pen) := fun ρ p => (f ρ p).bind fun x => match x.1 with
  | .int i => some (some i, x.2)
  | _ => none
abbrev DO := Env → Pen → Option (Option Int × Pen)
def cO (K : PySem.W.Frag) (f : DO) : TO := fun σ H Q => ∃ P F0 G0 F ρ p i p', Rel K P F0 G0 F H ρ σ p ∧ f ρ p = some (i, p') ∧
  ∀ F' H', Step P F H F' H' → PenAt K P F' H' p' → Q i H'
theorem PO.imp {X : Cx} {e : Option Expr} {t t' : TO} (h : PO X e t) (i : ∀ σ H Q, t' σ H Q → t σ H Q) : PO X e t' := by
  obtain ⟨r⟩ := h
  refine ⟨?_⟩
  intros
  refine r _ _ _ _ _ ‹_› (i _ _ _ ‹_›)
theorem xo_none : PO X none (cO X.K oNo) := PO.imp po_none fun σ H Q ⟨P, F0, G0, F, ρ, p, d, p', R, e, k⟩ => by
  simp only [oNo, Option.some.injEq, Prod.mk.injEq] at e
  obtain ⟨rfl, rfl⟩ := e
  exact k F H (Step.refl R.sub) R.pen
theorem xo_some (h : PE X a (cB X.K fa)) : PO X (some a) (cO X.K (oSo fa)) := PO.imp (po_some h) fun σ H Q ⟨P, F0, G0, F, ρ, p, d, p', R, e, k⟩ => by
  simp only [oSo, Option.bind_eq_some_iff] at e
  obtain ⟨⟨x, p1⟩, e1, e2⟩ := e
  split at e2
  · rename_i i q
    cases q
    simp only [Option.some.injEq, Prod.mk.injEq] at e2
    obtain ⟨rfl, rfl⟩ := e2
    refine ⟨P, F0, G0, F, ρ, p, _, p1, R, e1, fun v F1 H1 s1 q1 r1 => ?_⟩
    cases d_int r1
    exact ⟨i, rfl, k F1 H1 s1 q1⟩
  · cases e2
def cut {α : Type} (xs : List α) (lo hi : Option Int) : List α := (xs.drop (HT.sIx xs.length 0 lo)).take (HT.sIx xs.length xs.length hi - HT.sIx xs.length 0 lo)
/-- a part of a tuple or a text; of a list (new) -/
def eSl (a : DE) (l h : DO) : DE := fun ρ p => (a ρ p).bind fun x => (l ρ x.2).bind fun y => (h ρ y.2).bind fun z => match x.1 with
  | .tup xs => some (.tup (cut xs y.1 z.1), z.2)
  | .str s => if s.length ≤ sizeLine then some (.str (cutS s y.1 z.1), z.2) else none
  | .lst xs => some (.lst (cut xs y.1 z.1), z.2)
  | _ => none
def lSl (a : DE) (l h : DO) : DL := fun ρ p => (a ρ p).bind fun x => (l ρ x.2).bind fun y => (h ρ y.2).bind fun z => match x.1 with
  | .lst xs => some (cut xs y.1 z.1, z.2)
  | _ => none
theorem Reps.cut {P : Addr} {F : Hp} {xs : List D} {vs : List V} {l h : Option Int} (r : Reps K P F xs vs) : Reps K P F (Dn.cut xs l h) (cutV vs l h) := by
  unfold Dn.cut cutV
  rw [r.length]
  exact (r.drop _).take _
theorem sl_R : SlR X (fun x lo hi H Q => rSlL X.K x lo hi H Q ∨ rSlZ X.K x lo hi H Q ∨ rSlS x lo hi H Q) := SlR.or sl_list (SlR.or sl_tupZ sl_str)
theorem go3 {P : Addr} {F0 : Hp} {G0 : Gd} {F H : Hp} {ρ : Env} {σ : L2.St} {p p1 p2 p3 : Pen} {x : D} {l h : Option Int} {fl fh : DO} {R : V → Option Int → Option Int → Hp → Prop} (L : Rel K P F0 G0 F H ρ σ p) (e1 : fa ρ p = some (x, p1)) (e2 : fl ρ p1 = some (l, p2)) (e3 : fh ρ p2 = some (h, p3))
    (k : ∀ v F' H', Step P F H F' H' → PenAt K P F' H' p3 → Rep1 K P F' H' x v → R v l h H') : cB K fa σ H fun v H1 => cO K fl σ H1 fun l H2 => cO K fh σ H2 fun h H3 => R v l h H3 :=
  ⟨P, F0, G0, F, ρ, p, x, p1, L, e1, fun v F1 H1 s1 q1 r1 => ⟨P, F0, G0, F1, ρ, p1, l, p2, L.go s1 q1, e2, fun F2 H2 s2 q2 => ⟨P, F0, G0, F2, ρ, p2, h, p3, (L.go s1 q1).go s2 q2, e3, fun F3 H3 s3 q3 =>
    k v F3 H3 ((s1.trans s2 q1.thr).trans s3 q2.thr) q3 ((r1.go s2 q1.dk).go s3 q2.dk)⟩⟩⟩
theorem x_sl {lo hi : Option Expr} {fl fh : DO} (ha : PE X a (cB X.K fa)) (hl : PO X lo (cO X.K fl)) (hh : PO X hi (cO X.K fh)) : PE X (.Subscript a (.Slice lo hi none p2) pos) (cE X.K (eSl fa fl fh)) :=
  PE.imp (pe_slice sl_R ha hl hh) fun σ H Q ⟨P, F0, G0, F, ρ, p, d, p', R, e, k⟩ => by
    simp only [eSl, Option.bind_eq_some_iff] at e
    obtain ⟨⟨x, p1⟩, e1, ⟨l, p2⟩, e2, ⟨h, p3⟩, e3, e4⟩ := e
    refine go3 R e1 e2 e3 fun v F1 H1 s q r => ?_
    simp only at e4
    split at e4
    · rename_i xs
      simp only [Option.some.injEq, Prod.mk.injEq] at e4
      obtain ⟨rfl, rfl⟩ := e4
      have r' : Rep X.K P F1 (.tup xs) v := r
      obtain ⟨a, vs, rfl, h1, z, t⟩ := d_tup r
      have hl := t.length
      refine .inr (.inl ⟨a, vs, rfl, s.fh.sqT h1.t, fun e => ?_, fun _ => ?_⟩)
      · refine k _ F1 H1 s q ?_
        have e2 : cut xs l h = xs := by
          unfold cut
          rw [hl, e.1, e.2, ← hl]
          simp
        rw [e2]
        exact r'
      · exact new_tup s.fh (Nat.le_trans (cutV_length _ _ _) z) t.cut fun w F' H' t rw => k w F' H' (s.trans (t.step P) q.thr) (q.ext t) rw
    · rename_i x
      split at e4
      · rename_i hz
        simp only [Option.some.injEq, Prod.mk.injEq] at e4
        obtain ⟨rfl, rfl⟩ := e4
        cases d_str r
        exact .inr (.inr ⟨_, rfl, hz, k _ F1 H1 s q r_str⟩)
      · cases e4
    · rename_i xs
      simp only [Option.some.injEq, Prod.mk.injEq] at e4
      obtain ⟨rfl, rfl⟩ := e4
      obtain ⟨a, vs, rfl, h1, z, t⟩ := d_lst r
      refine .inl ⟨a, vs, rfl, h1, fun b hb => ?_⟩
      have E := Ext.new (o := .lst (cutV vs l h)) s.fh hb
      refine k _ _ _ (s.trans (E.step P) q.thr) (q.ext E) ?_
      unfold Rep
      exact ⟨b, _, rfl, upd_same, Nat.le_trans (cutV_length _ _ _) z, t.cut.mono E.ff⟩
    · cases e4
theorem x_slF {lo hi : Option Expr} {fl fh : DO} (ha : PE X a (cB X.K fa)) (hl : PO X lo (cO X.K fl)) (hh : PO X hi (cO X.K fh)) : PE X (.Subscript a (.Slice lo hi none p2) pos) (cF X.K (lSl fa fl fh)) :=
  PE.imp (pe_slice sl_R ha hl hh) fun σ H Q ⟨P, F0, G0, F, ρ, p, d, p', R, e, k⟩ => by
    simp only [lSl, Option.bind_eq_some_iff] at e
    obtain ⟨⟨x, p1⟩, e1, ⟨l, p2⟩, e2, ⟨h, p3⟩, e3, e4⟩ := e
    refine go3 R e1 e2 e3 fun v F1 H1 s q r => ?_
    simp only at e4
    split at e4
    · rename_i xs
      simp only [Option.some.injEq, Prod.mk.injEq] at e4
      obtain ⟨rfl, rfl⟩ := e4
      obtain ⟨a, vs, rfl, h1, z, t⟩ := d_lst r
      exact .inl ⟨a, vs, rfl, h1, new_lst s q (Nat.le_trans (cutV_length _ _ _) z) t.cut k⟩
    · cases e4
/-! ### fields -/
def flook : List (String × D) → String → Option D
  | [], _ => none
  | (n, d) :: fs, f => if n = f then some d else flook fs f
def gFld (f : String) : D → Option D
  | .ins _ fs => flook fs f
  | _ => none
theorem str_inj {a b : String} (h : (a : Str) = (b : Str)) : a = b := by
  have e : Str.ofString a = Str.ofString b := h
  rw [Str.ofString_eq_toList, Str.ofString_eq_toList] at e
  injection e with e
  have e2 : a.toList.map Char.toNat = b.toList.map Char.toNat := by simpa using congrArg Array.toList e
  have inj : ∀ (x y : List Char), x.map Char.toNat = y.map Char.toNat → x = y := by
    intro x
    induction x with
    | nil => intro y h; cases y with
      | nil => rfl
      | cons => simp at h
    | cons c x ih =>
      intro y h
      cases y with
      | nil => simp at h
      | cons d y =>
        simp only [List.map_cons, List.cons.injEq] at h
        rw [ih y h.2, Char.toNat_inj.mp h.1]
  exact String.toList_inj.mp (inj _ _ e2)
theorem RepF.look {P : Addr} {F : Hp} : ∀ {fs : List (String × D)} {gs : List (Str × V)} {f : String} {d : D}, RepF K P F fs gs → flook fs f = some d → ∃ v, gs.lookup (f : Str) = some v ∧ Rep K P F d v ∧ f ∈ fs.map (·.1)
  | [], _, _, _, _, e => by cases e
  | (n, x) :: fs, gs, f, d, h, e => by
    unfold RepF at h
    obtain ⟨v, r, rfl, q, t⟩ := h
    unfold flook at e
    split at e
    · rename_i hn
      subst hn
      cases e
      exact ⟨v, by simp [List.lookup], q, by simp⟩
    · rename_i hn
      obtain ⟨u, h1, h2, h3⟩ := RepF.look t e
      refine ⟨u, ?_, h2, by simp [h3]⟩
      have ne : ((f : Str) == (n : Str)) = false := by
        rw [beq_eq_false_iff_ne]
        intro z
        exact hn (str_inj z).symm
      rw [List.lookup, ne]
      exact h1
def attrOk : Expr → Bool
  | .Call (.Name _ _) [] [] _ => false
  | _ => true
theorem attr_plain {e : Expr} {f : Str} {env : PySem.Env} {whole : Sem Value} (h : attrOk e = true) : attributeBase e f env whole = whole := by
  unfold attributeBase
  split
  · cases h
  · rfl
theorem x_fld {f : String} {g : Str} (ha : PE X a (cB X.K fa)) (h : attrOk a = true) (hg : g = (f : Str)) : PE X (.Attribute a g pos) (cE X.K (eUn (gFld f) fa)) := by
  subst hg
  exact PE.imp (pe_fld ha (attr_plain h)) fun σ H Q ⟨P, F0, G0, F, ρ, p, d, p', R, e, k⟩ => by
    simp only [eUn, Option.bind_eq_some_iff, Option.map_eq_some_iff, Prod.mk.injEq] at e
    obtain ⟨⟨x, p1⟩, e1, d', e2, rfl, rfl⟩ := e
    refine ⟨P, F0, G0, F, ρ, p, x, p1, R, e1, fun v F1 H1 s1 q1 r1 => ?_⟩
    cases x with
    | ins c fs =>
      have r1 : Rep X.K P F1 (.ins c fs) v := r1
      unfold Rep at r1
      obtain ⟨a, dx, gs, rfl, h1, h2, ic, rf⟩ := r1
      obtain ⟨u, l1, l2, l3⟩ := rf.look e2
      exact ⟨a, _, dx, gs, u, rfl, s1.fh _ _ h1, ic.cl, ic.na f l3, l1, k u F1 H1 s1 q1 l2⟩
    | _ => cases e2
end

/-! ### isinstance -/
/-- a class, as the text names it -/
inductive Cl where
  | ty (n : String) | own (c : String)
  deriving DecidableEq
def Cl.v (K : PySem.W.Frag) : Cl → Value
  | .ty n => .type n
  | .own c => .ref (He.ga K c)
def D.cl : D → Option Cl
  | .non => some (.ty "NoneType")
  | .bl _ => some (.ty "bool")
  | .int _ => some (.ty "int")
  | .str _ => some (.ty "str")
  | .lst _ => some (.ty "list")
  | .tup _ => some (.ty "tuple")
  | .ins c _ => some (.own c)
  | _ => none
/-- what isinstance says of two classes -/
def Cl.is : Cl → Cl → Bool
  | .ty a, .ty b => decide (a = b) || (decide (a = "bool") && decide (b = "int"))
  | .own a, .own b => decide (a = b)
  | _, _ => false
def baseTys : List String := ["NoneType", "bool", "int", "str", "list", "tuple"]
/-- the facts of isinstance -/
structure IsiFact (K : PySem.W.Frag) (cs : List String) : Prop where
  to : ∀ c ∈ cs, ∀ t ∈ baseTys, PySem.W.kitOne K (.type t) (.ref (He.ga K c)) = some false
  ot : ∀ c ∈ cs, ∀ t ∈ baseTys, PySem.W.kitOne K (.ref (He.ga K c)) (.type t) = some false
  oo : ∀ c ∈ cs, ∀ d ∈ cs, PySem.W.kitOne K (.ref (He.ga K c)) (.ref (He.ga K d)) = some (decide (c = d))
def clOk (cs : List String) : Cl → Bool
  | .ty n => baseTys.contains n
  | .own c => cs.contains c
theorem kit_tt {K : PySem.W.Frag} : ∀ a ∈ baseTys, ∀ b ∈ baseTys, PySem.W.kitOne K (.type a) (.type b) = some (Cl.is (.ty a) (.ty b)) := by
  intro a ha b hb
  refine kit_ty ?_
  have h : (baseTys.all fun a => baseTys.all fun b => decide (kitB a b = some (Cl.is (.ty a) (.ty b)))) = true := by decide +kernel
  exact of_decide_eq_true (List.all_eq_true.mp (List.all_eq_true.mp h a ha) b hb)
theorem kit_cl {K : PySem.W.Frag} {cs : List String} (I : IsiFact K cs) {a b : Cl} (ha : clOk cs a = true) (hb : clOk cs b = true) : PySem.W.kitOne K (a.v K) (b.v K) = some (a.is b) := by
  cases a with
  | ty a =>
    have h1 : a ∈ baseTys := by simpa [clOk] using ha
    cases b with
    | ty b => exact kit_tt a h1 b (by simpa [clOk] using hb)
    | own b => exact I.to b (by simpa [clOk] using hb) a h1
  | own a =>
    have h1 : a ∈ cs := by simpa [clOk] using ha
    cases b with
    | ty b => exact I.ot a h1 b (by simpa [clOk] using hb)
    | own b => exact I.oo a h1 b (by simpa [clOk] using hb)
theorem kit_any {K : PySem.W.Frag} {cs : List String} (I : IsiFact K cs) {a : Cl} (ha : clOk cs a = true) : ∀ bs : List Cl, (bs.all (clOk cs)) = true → PySem.W.kitAny K (a.v K) (bs.map (Cl.v K)) = some (bs.any a.is)
  | [], _ => rfl
  | b :: bs, h => by
    rw [List.all_cons, Bool.and_eq_true] at h
    have h1 := kit_cl I ha h.1
    refine kitAny_cons h1 (fun e => ?_) fun e => ?_
    · rw [List.any_cons, e]
      exact kit_any I ha bs h.2
    · rw [List.any_cons, e]
      rfl
/-- the class of a value is one of these -/
def gIsi (cs : List String) (bs : List Cl) (d : D) : Option D := d.cl.bind fun c => if clOk cs c then some (.bl (bs.any c.is)) else none
section
variable {X : Cx} {K : PySem.W.Frag} {a b o : Expr} {fa fb fc : DE} {pos p1 p2 p3 : Pos}
theorem ty_of {P : Addr} {F H : Hp} {d : D} {v : V} {c : Cl} (h : Rep1 K P F H d v) (s : Sub F H) (e : d.cl = some c) : TyX K H v (c.v K) := by
  have lst : ∀ {a : Addr} {vs : List V}, SqL K H a vs → TyX K H (.ref a) (.type "list") := fun {a vs} q => by
    rcases q with (q | ⟨o, q⟩) | ⟨o, its, n, q, c, _⟩
    · exact .base (.lst q)
    · exact .base (.frz q)
    · exact .kList q c
  have tup : ∀ {a : Addr} {vs : List V}, SqT K H a vs → TyX K H (.ref a) (.type "tuple") := fun {a vs} q => by
    rcases q with (q | ⟨o, q⟩) | ⟨o, its, n, q, c, _⟩
    · exact .base (.tup q)
    · exact .fTuple q
    · exact .kTuple q c
  cases d with
  | non => cases d_non h; cases e; exact .base .non
  | bl x => cases d_bl h; cases e; exact .base (.bl _)
  | int x => cases d_int h; cases e; exact .base (.int _)
  | str x => cases d_str h; cases e; exact .base (.str _)
  | lst xs =>
    cases e
    obtain ⟨a, vs, rfl, q, _, _⟩ := h
    exact lst (SqL.of q)
  | tup xs =>
    cases e
    obtain ⟨a, vs, rfl, q, _, _⟩ := d_tup h
    exact tup (s.sqT q.t)
  | ins c fs =>
    cases e
    have h : Rep K P F (.ins c fs) v := h
    unfold Rep at h
    obtain ⟨a, dx, gs, rfl, h1, h2, ic, rf⟩ := h
    exact .base (.ins (s _ _ h1) ic.cl ic.ha ic.hn ic.ht ic.hm)
  | _ => cases e
theorem isi_c {P : Addr} {F0 : Hp} {G0 : Gd} {F H : Hp} {ρ : Env} {σ : L2.St} {p p' : Pen} {d : D} {cs : List String} {bs : List Cl} {x : D} {p1 : Pen} {Q : VK} (e2 : gIsi cs bs x = some d) (k : ∀ b, d = .bl b → ∀ c, x.cl = some c → clOk cs c = true → b = bs.any c.is → Q (.bl b) H) : ∃ c, x.cl = some c ∧ clOk cs c = true ∧ Q (.bl (bs.any c.is)) H := by
  unfold gIsi at e2
  obtain ⟨c, e3, e4⟩ := Option.bind_eq_some_iff.mp e2
  split at e4
  · rename_i h
    exact ⟨c, e3, h, k _ (Option.some.inj e4).symm c e3 h rfl⟩
  · cases e4
/-- isinstance(x, C) -/
theorem x_isi1 {cs : List String} {c : Cl} {t : V} (I : IsiFact X.K cs) (hc : clOk cs c = true) (ha : PE X a (cB X.K fa)) (n : notStar a = true) (nb : notStar b = true) (hb : PE X b (tC t)) (ht : ClsV t (c.v X.K)) (hG : Gl X "isinstance") (hm : X.mg "isinstance" = none) :
    PE X (.Call (.Name "isinstance" p1) [a, b] [] pos) (cE X.K (eUn (gIsi cs [c]) fa)) :=
  PE.imp (pe_callB call_isi hG hm (by decide +kernel) (pa_cons ha (pa_cons hb pa_nil (star_plain nb)) (star_plain n)) (by decide) (by decide +kernel) (star_plain n) (stars_none (by simp [nb]))) fun σ H Q ⟨P, F0, G0, F, ρ, p, d, p', R, e, k⟩ => by
    simp only [eUn, Option.bind_eq_some_iff, Option.map_eq_some_iff, Prod.mk.injEq] at e
    obtain ⟨⟨x, p1⟩, e1, d', e2, rfl, rfl⟩ := e
    refine ⟨P, F0, G0, F, ρ, p, x, p1, R, e1, fun v F1 H1 s1 q1 r1 => ?_⟩
    unfold gIsi at e2
    obtain ⟨z, e3, e4⟩ := Option.bind_eq_some_iff.mp e2
    split at e4
    · rename_i h
      cases e4
      refine ⟨v, t, z.v X.K, c.v X.K, z.is c, rfl, ht, ty_of r1 s1.fh e3, kit_cl I h hc, ?_⟩
      have e5 : [c].any z.is = z.is c := by simp
      rw [e5] at k
      exact k _ F1 H1 s1 q1 r_bl
    · cases e4
/-- isinstance(x, (C1, C2, ..)) -/
theorem x_isiT {cs : List String} {bs : List Cl} {es : List Expr} {ts : List V} {kk : Nat} (I : IsiFact X.K cs) (hc : bs.all (clOk cs) = true) (ha : PE X a (cB X.K fa)) (n : notStar a = true) (hb : PA X es (fun _ H Q => Q ts H)) (ht : Paired ClsV ts (bs.map (Cl.v X.K)))
    (hz : bs.length ≤ 100) (hG : Gl X "isinstance") (hm : X.mg "isinstance" = none) :
    PE X (.Call (.Name "isinstance" p1) [a, .Tuple es kk p2] [] pos) (cE X.K (eUn (gIsi cs bs) fa)) :=
  PE.imp (pe_callB call_isiT hG hm (by decide +kernel) (pa_cons ha (pa_cons (pe_tup hb) pa_nil (star_plain rfl)) (star_plain n)) (by decide) (by decide +kernel) (star_plain n) (stars_none (by rfl))) fun σ H Q ⟨P, F0, G0, F, ρ, p, d, p', R, e, k⟩ => by
    simp only [eUn, Option.bind_eq_some_iff, Option.map_eq_some_iff, Prod.mk.injEq] at e
    obtain ⟨⟨x, p1⟩, e1, d', e2, rfl, rfl⟩ := e
    refine ⟨P, F0, G0, F, ρ, p, x, p1, R, e1, fun v F1 H1 s1 q1 r1 => ?_⟩
    have hl : ts.length = bs.length := by rw [Paired.length ht, List.length_map]
    refine ⟨Nat.le_trans (show ts.length ≤ 100 by omega) (by rw [sizeLine_eq]; decide), fun T hT => ?_⟩
    unfold gIsi at e2
    obtain ⟨z, e3, e4⟩ := Option.bind_eq_some_iff.mp e2
    split at e4
    · rename_i h
      cases e4
      have E : Ext F1 H1 F1 (upd H1 T (.tup ts)) := Ext.loose s1.fh hT
      have r2 := r1.go (E.step P) q1.dk
      exact ⟨v, T, ts, z.v X.K, _, _, rfl, upd_same, ht, ty_of r2 E.fh e3, kit_any I h bs hc, k _ F1 _ (s1.trans (E.step P) q1.thr) (q1.ext E) r_bl⟩
    · cases e4
/-! ### sorted of ints -/
def sortI (ns : List Int) : List Int := ns.mergeSort fun a b => decide (a ≤ b)
theorem sort_uniq : ∀ {a b : List Int}, a.Perm b → a.Pairwise (· ≤ ·) → b.Pairwise (· ≤ ·) → a = b
  | [], b, p, _, _ => (List.Perm.nil_eq p)
  | x :: a, [], p, _, _ => by
    have := p.length_eq
    simp at this
  | x :: a, y :: b, p, h1, h2 => by
    rw [List.pairwise_cons] at h1 h2
    have hx : x ∈ y :: b := p.subset List.mem_cons_self
    have hy : y ∈ x :: a := p.symm.subset List.mem_cons_self
    have e : x = y := by
      rcases List.mem_cons.mp hx with e | e
      · exact e
      · rcases List.mem_cons.mp hy with e2 | e2
        · exact e2.symm
        · have q1 := h2.1 x e
          have q2 := h1.1 y e2
          omega
    subst e
    rw [sort_uniq (List.Perm.cons_inv p) h1.2 h2.2]
theorem sortI_eq {ns ms : List Int} (p : ms.Perm ns) (h : ms.Pairwise (· ≤ ·)) : ms = sortI ns := by
  refine sort_uniq (p.trans (List.mergeSort_perm _ _).symm) h ?_
  have := List.pairwise_mergeSort (le := fun a b : Int => decide (a ≤ b)) (fun a b c h1 h2 => by simp only [decide_eq_true_eq] at *; omega) (fun a b => by simp only [Bool.or_eq_true, decide_eq_true_eq]; omega) ns
  exact this.imp fun h => of_decide_eq_true h
def gSorted : D → Option (List D)
  | .lst xs => (intsOf xs).map fun ns => (sortI ns).map D.int
  | _ => none
theorem sorted_L : CallL K (rSortedI K) (h1 gSorted) := CallL.one fun P F H x v xs Q p pa s r e k => by
  cases x with
  | lst ys =>
    obtain ⟨ns, e1, rfl⟩ := Option.map_eq_some_iff.mp e
    have h := intsOf_eq e1
    subst h
    obtain ⟨a, vs, rfl, q, z, t⟩ := d_lst r
    have h := Reps.ints_inv t
    subst h
    refine ⟨a, ns, rfl, q, fun ms b pm hs hb => ?_⟩
    have h := sortI_eq pm hs
    subst h
    have hl : (sortI ns).length = ns.length := pm.length_eq
    exact k _ b hb (by rw [List.length_map, hl, ← List.length_map (f := V.int)]; exact z) Reps.ints
  | _ => cases e
end

/-! ### own defs -/
abbrev Fn := List D → Pen → Option (D × Pen)
/-- the promise of a def of n parameters whose meaning is m -/
def spOf (K : PySem.W.Frag) (n : Nat) (m : Fn) : Sp := fun vs H Q _ => ∃ P F ds p d p', Sub F H ∧ PenAt K P F H p ∧ Reps K P F ds vs ∧ ds.length = n ∧ m ds p = some (d, p') ∧
  ∀ v F' H', Step P F H F' H' → PenAt K P F' H' p' → Rep K P F' d v → Q v H'
def eFn (n : Nat) (m : Fn) (l : DL) : DE := fun ρ p => (l ρ p).bind fun x => if x.1.length = n then m x.1 x.2 else none
theorem call_s {K : PySem.W.Frag} {n : Nat} {m : Fn} {l : DL} {σ : L2.St} {H : Hp} {Q : VK} (h : cE K (eFn n m l) σ H Q) : tCall (spOf K n m) [] E0 (cA K l) σ H Q := by
  obtain ⟨P, F0, G0, F, ρ, p, d, p', R, e, k⟩ := h
  simp only [eFn, Option.bind_eq_some_iff] at e
  obtain ⟨⟨xs, p1⟩, e1, e2⟩ := e
  split at e2
  · rename_i hn
    refine ⟨P, F0, G0, F, ρ, p, xs, p1, R, e1, fun vs F1 H1 s1 q1 r1 => ⟨P, F1, xs, p1, d, p', s1.fh, q1, by rw [List.append_nil]; exact r1, hn, e2, fun v F2 H2 s2 q2 r2 => k v F2 H2 (s1.trans s2 q1.thr) q2 r2⟩⟩
  · cases e2
/-- a def that may be called: its meaning, its promise at level k -/
structure Cal (X : Cx) (k : Nat) (x : Str) (n : Nat) (m : Fn) : Prop where
  ok : ∃ f fd ps, FnOk X.prog X.w X.K X.mg X.base CX0 k f fd ps (spOf X.K n m) ∧ X.mg x = some (.ref f) ∧ PySem.W.keepIn X.K (.ref f) = true ∧ Binds X.K fd ps []
section
variable {X : Cx} {e : Expr} {es : List Expr} {l : DL} {x : Str} {k n : Nat} {m : Fn} {pn pos : Pos}
theorem x_fn (c : Cal X k x n m) (hr : Room k X.A) (hG : Gl X x) (ha : PA X (e :: es) (cA X.K l)) (hd : (x == ("__debug__" : Str)) = false) (ns : (e :: es).all notStar = true) : PE X (.Call (.Name x pn) (e :: es) [] pos) (cE X.K (eFn n m l)) := by
  obtain ⟨f, fd, ps, F, hm, hk, hb⟩ := c.ok
  rw [List.all_cons, Bool.and_eq_true] at ns
  exact PE.imp (pe_call F hr hG hm hk hb .nil pass0 ha hd (star_plain ns.1) (stars_none ns.2)) fun _ _ _ h => call_s h
theorem x_fn0 (c : Cal X k x n m) (hr : Room k X.A) (hG : Gl X x) (hd : (x == ("__debug__" : Str)) = false) : PE X (.Call (.Name x pn) [] [] pos) (cE X.K (eFn n m lNil)) := by
  obtain ⟨f, fd, ps, F, hm, hk, hb⟩ := c.ok
  refine PE.imp (pe_call0 F hr hG hm hk hb .nil pass0 hd) fun σ H Q h => ?_
  obtain ⟨P, F0, G0, F, ρ, p, d, p', R, e, k⟩ := call_s h
  simp only [lNil, Option.some.injEq, Prod.mk.injEq] at e
  obtain ⟨rfl, rfl⟩ := e
  exact k [] F H (Step.refl R.sub) R.pen Reps.nil
end

/-! ### own classes -/
abbrev Fi := List D → Pen → Option (List (String × D) × Pen)
def spIni (K : PySem.W.Frag) (c : String) (n : Nat) (m : Fi) : Sp := fun vs H Q _ => ∃ P F G ds p fs p' x dx us, vs = .ref x :: us ∧ H = upd (upd G dx (.own x)) x (.ins (He.ga K c) dx []) ∧ G x = none ∧ G dx = none ∧ dx ≠ x ∧
  Sub F G ∧ PenAt K P F G p ∧ Reps K P F ds us ∧ ds.length = n ∧ m ds p = some (fs, p') ∧
  ∀ F' H' gs, Step P F G F' H' → PenAt K P F' H' p' → F' x = none → F' dx = none → H' x = some (.ins (He.ga K c) dx gs) → H' dx = some (.own x) → RepF K P F' fs gs → Q .non H'
def eMk (c : String) (fl : List String) (n : Nat) (m : Fi) (l : DL) : DE := fun ρ p => (l ρ p).bind fun x => if x.1.length = n then (m x.1 x.2).bind fun y => if y.1.all fun q => fl.contains q.1 then some (.ins c y.1, y.2) else none else none
theorem make_s {K : PySem.W.Frag} {c : String} {fl : List String} {n : Nat} {m : Fi} {l : DL} {σ : L2.St} {H : Hp} {Q : VK} (I : InsFact K c fl) (h : cE K (eMk c fl n m l) σ H Q) : tMake (He.ga K c) (spIni K c n m) [] E0 (cA K l) σ H Q := by
  obtain ⟨P, F0, G0, F, ρ, p, d, p', R, e, k⟩ := h
  simp only [eMk, Option.bind_eq_some_iff] at e
  obtain ⟨⟨xs, p1⟩, e1, e2⟩ := e
  split at e2
  · rename_i hn
    obtain ⟨⟨fs, p2⟩, e3, e4⟩ := Option.bind_eq_some_iff.mp e2
    simp only at e4
    split at e4
    · rename_i hf
      simp only [Option.some.injEq, Prod.mk.injEq] at e4
      obtain ⟨rfl, rfl⟩ := e4
      refine ⟨P, F0, G0, F, ρ, p, xs, p1, R, e1, fun vs F1 H1 s1 q1 r1 x dx hx hdx ne => ?_⟩
      refine ⟨P, F1, H1, xs, p1, fs, p2, x, dx, vs, by rw [List.append_nil], rfl, hx, hdx, ne, s1.fh, q1, r1, hn, e3, fun F2 H2 gs s2 q2 nx ndx hx2 hdx2 rf => ⟨rfl, ?_⟩⟩
      have S : Sub F2 (upd (upd F2 dx (.own x)) x (.ins (He.ga K c) dx gs)) := fun b u e => by
        rw [upd_ne (ne_of_none e nx), upd_ne (ne_of_none e ndx)]
        exact e
      have xP : x ≠ P := fun z => by
        subst z
        exact q1.thr hx
      have dP : dx ≠ P := fun z => by
        subst z
        exact q1.thr hdx
      have T : Step P F1 H1 (upd (upd F2 dx (.own x)) x (.ins (He.ga K c) dx gs)) H2 := by
        refine ⟨s2.ff.trans S, s2.hh, fun b u e => ?_, fun b u e => ?_⟩
        · by_cases hb : b = x
          · subst hb
            exact .inr hx
          · rw [upd_ne hb] at e
            by_cases hd : b = dx
            · subst hd
              exact .inr hdx
            · rw [upd_ne hd] at e
              exact s2.nw _ _ e
        · by_cases hb : b = x
          · subst hb
            rw [upd_same] at e
            rw [← e]
            exact hx2
          · rw [upd_ne hb] at e
            by_cases hd : b = dx
            · subst hd
              rw [upd_same] at e
              rw [← e]
              exact hdx2
            · rw [upd_ne hd] at e
              exact s2.fh _ _ e
      refine k _ _ H2 (s1.trans T q1.thr) ⟨?_, ?_⟩ ?_
      · obtain ⟨L, c1, c2, c3⟩ := q2.at_
        exact ⟨L, c1, S _ _ c2, c3⟩
      · rw [upd_ne (Ne.symm xP), upd_ne (Ne.symm dP)]
        exact q2.no
      · unfold Rep
        refine ⟨x, dx, gs, rfl, upd_same, by rw [upd_ne ne, upd_same], ⟨I.cl, fun f hf2 => ?_, I.ha, I.hn, I.ht, I.hm⟩, rf.mono S⟩
        obtain ⟨q, hq, rfl⟩ := List.mem_map.mp hf2
        exact I.na _ (by simpa using List.all_eq_true.mp hf q hq)
    · cases e4
  · cases e2
structure Mks (X : Cx) (k : Nat) (x : Str) (c : String) (fl : List String) (n : Nat) (m : Fi) : Prop where
  ok : ∃ f fd ps, FnOk X.prog X.w X.K X.mg X.base CX0 k f fd ps (spIni X.K c n m) ∧ Mk X.K (He.ga X.K c) f ∧ X.mg x = some (.ref (He.ga X.K c)) ∧ Binds X.K fd ps [] ∧ InsFact X.K c fl
section
variable {X : Cx} {e : Expr} {es : List Expr} {l : DL} {x : Str} {k n : Nat} {c : String} {fl : List String} {m : Fi} {pn pos : Pos}
theorem x_mk (h : Mks X k x c fl n m) (hr : Room (k + 1) X.A) (hG : Gl X x) (ha : PA X (e :: es) (cA X.K l)) (hd : (x == ("__debug__" : Str)) = false) (ns : (e :: es).all notStar = true) : PE X (.Call (.Name x pn) (e :: es) [] pos) (cE X.K (eMk c fl n m l)) := by
  obtain ⟨f, fd, ps, F, M, hm, hb, I⟩ := h.ok
  rw [List.all_cons, Bool.and_eq_true] at ns
  exact PE.imp (pe_make M F hr hG hm hb .nil pass0 ha hd (star_plain ns.1) (stars_none ns.2)) fun _ _ _ h => make_s I h
end
end Dn
set_option Elab.async false
set_option linter.all false
set_option maxRecDepth 100000
set_option maxHeartbeats 4000000
/-! Dn It: enumerate and zip over lists and tuples in any mix. -/
namespace Dn
open PySem PySem.Spec PyProof.Rows L2
open Sem (wp)
open AutoSeq1 (wpAny_loadPart')

def SqK (k : Bool) (K : PySem.W.Frag) (H : Hp) (a : Addr) (xs : List V) : Prop := match k with
  | true => SqT K H a xs
  | false => SqL K H a xs
def ItK (k : Bool) (h : Heap) (it a : Addr) (i : Nat) : Prop := match k with
  | true => h.IsTupleIter it a i
  | false => h.IsListIter it a i
def IsK (k : Bool) (h : Heap) (a : Addr) (its : Array Value) : Prop := match k with
  | true => h.IsTuple a its
  | false => h.IsList a its
section
variable {X : Cx} {pins : List (Addr × Obj)} {σ : L2.St} {H : Hp} {s : Shared} {k : Bool} {a it : Addr} {xs ys : List V}
theorem sq_read (I : Inv X pins σ H s) (h : SqK k X.K H a xs) : ∃ its, Vals xs its ∧ IsK k s.heap a its.toArray ∧ xs.length ≤ sizeLine := by
  cases k with
  | true =>
    obtain ⟨its, r, p, z⟩ := I.tuple h
    exact ⟨its, r, p, z⟩
  | false =>
    obtain ⟨its, r, p, z⟩ := I.list h
    exact ⟨its, r, p.isList, z⟩
theorem sq_inj (I : Inv X pins σ H s) (h : SqK k X.K H a xs) (h' : SqK k X.K H a ys) : xs = ys := by
  cases k with
  | true => exact I.tuple_inj h h'
  | false => exact I.list_inj h h'
theorem ik_lt {h : Heap} {its : Array Value} (x : IsK k h a its) : a < h.objs.size := by
  cases k with
  | true =>
    obtain ⟨o, e, _⟩ := x
    exact Heap.lt_size e
  | false =>
    obtain ⟨o, e, _⟩ := x
    exact Heap.lt_size e
theorem itk_at {h h' : Heap} {i : Nat} (x : ItK k h it a i) (q : ∀ o, h.get? it = some o → h'.get? it = some o) : ItK k h' it a i := by
  cases k with
  | true => exact Heap.IsTupleIter.at x q
  | false => exact Heap.IsListIter.at x q
theorem itk_obj {h : Heap} {i : Nat} (x : ItK k h it a i) : ∃ o, h.get? it = some o ∧ ∀ v, o.data ≠ .cell v := by
  cases k with
  | true =>
    obtain ⟨o, e, _, d⟩ := x
    exact ⟨o, e, fun v z => by rw [d] at z; cases z⟩
  | false =>
    obtain ⟨o, e, _, d⟩ := x
    exact ⟨o, e, fun v z => by rw [d] at z; cases z⟩
theorem drawsK {prog : Program} {w : World} {A : Around} (hh : A.handled = none) (it a : Addr) (hne : a ≠ it) (items : Array Value) :
    Draws prog w A it [it, a] items.size (fun i v => items[i]? = some v) (fun i h => ItK k h it a i ∧ IsK k h a items) := by
  cases k with
  | true => exact Draws.tuple hh it a hne items
  | false => exact Draws.list hh it a hne items
def begO (k : Bool) (a : Addr) : Obj := match k with
  | true => { cls := .type "tuple_iterator", data := .fields #[.ref a, .int 0 0] }
  | false => { cls := .type "list_iterator", data := .fields #[.ref a, .int 0 0] }
theorem beginsK (k : Bool) (a : Addr) (items : Array Value) : Begins (.ref a) (begO k a) (fun h => IsK k h a items) := by
  cases k with
  | true => exact begins_tuple a items
  | false => exact begins_list a items
theorem beg_it {h : Heap} (e : h.get? it = some (begO k a)) : ItK k h it a 0 := by
  cases k with
  | true => exact ⟨_, e, rfl, rfl⟩
  | false => exact ⟨_, e, rfl, rfl⟩
end

/-! ### enumerate -/
def Ite2 (k : Bool) (K : PySem.W.Frag) (a : Addr) : It :=
  ⟨fun i H => ∃ (xs : List V) (x : V), SqK k K H a xs ∧ xs[i]? = some x, fun i H v H' => ∃ T x, v = .ref T ∧ H T = none ∧ H' = upd H T (.tup [.int (i : Nat), x]) ∧ ∀ xs, SqK k K H a xs → xs[i]? = some x, fun i H => ∃ xs : List V, SqK k K H a xs ∧ xs.length = i⟩
theorem turn_enum2 {P : Program} {w : World} {K : PySem.W.Frag} {elts : List Expr} {kk : Nat} {tpos : Pos} (k : Bool) (a e it : Addr) (hea : e ≠ a) (hia : a ≠ it) :
    Turn P w K (.Tuple elts kk tpos) (Ite2 k K a) [e, it] e (fun i h => (∃ old, IsEnum h e it ((i : Nat) : Int) old) ∧ ItK k h it a i ∧ e ≠ it) where
  mem := by simp
  obj := fun i h st b hb => by
    obtain ⟨⟨old, he⟩, hi, _⟩ := st
    have e' : b = e ∨ b = it := by simpa using hb
    rcases e' with z | z
    · rw [z]; exact ⟨_, he, fun v q => nomatch q⟩
    · rw [z]; exact itk_obj hi
  keep := fun i h h' st k => let ⟨⟨old, he⟩, hi, hne⟩ := st; ⟨⟨old, k e (by simp) _ he⟩, itk_at hi fun o q => k it (by simp) o q, hne⟩
  item := by
    intro X hP hw hK hc i pins s σ H E I hf st hg
    subst hP hw hK
    obtain ⟨⟨old, he⟩, hit, hne⟩ := st
    obtain ⟨xs, x, hq, hx⟩ := hg
    obtain ⟨its, rv, p, hz⟩ := sq_read I hq
    obtain ⟨u, hu, ru⟩ := rv.get hx
    have hsz : i < its.toArray.size := by
      obtain ⟨h1, _⟩ := List.getElem?_eq_some_iff.mp hu
      simpa using h1
    have D : Draws X.prog X.w X.A.in1 it [it, a] its.toArray.size (fun i v => its.toArray[i]? = some v) (fun i h => ItK k h it a i ∧ IsK k h a its.toArray) := drawsK (by first | exact I.ok.hd hc | exact (I.ok.hd hc)) it a hia its.toArray
    have hef : e ∉ [it, a] := by
      intro z
      have : e = it ∨ e = a := by simpa using z
      rcases this with z | z
      · exact hne z
      · exact hea z
    have W := GoesN.enumFrom (elts := elts) (x1 := kk) (pos := tpos) 0 D e hne hef (by simp)
    have hel : e < s.heap.objs.size := Heap.lt_size he
    have hil : it < s.heap.objs.size := by
      obtain ⟨o, ho, _⟩ := itk_obj hit
      exact Heap.lt_size ho
    refine W.goes i s _ _ hsz ⟨⟨old, by rw [Int.zero_add]; exact he⟩, hit, p⟩ fun v h' tk hY st' hk htk => ?_
    obtain ⟨T, t, y, rfl, hTn, hy, o, hTo, hTc, n, hTd⟩ := hY
    obtain ⟨⟨old', he'⟩, hit', _⟩ := st'
    have ey : y = u := by
      have e1 : its.toArray[i]? = some y := hy
      have e2 : its.toArray[i]? = some u := by simpa using hu
      rw [e1] at e2
      exact Option.some.inj e2
    subst ey
    have new : ObjOk X.prog X.w (upd H T (.tup [.int (i : Nat), x])) h' T (.tup [.int (i : Nat), x]) :=
      ⟨by show 2 ≤ sizeLine; decide, [.int (0 + (i : Int)) t, y], .cons ⟨_, by rw [Int.zero_add]⟩ (.cons ru .nil), ⟨o, hTo, hTc, n, hTd⟩⟩
    have I1 : Inv X pins σ (upd H T (.tup [.int (i : Nat), x])) { s with heap := h', toks := tk } :=
      I.turnedNew (ch := [e, it]) (fun b ob hb q => hk b ob hb q) hf hTn new
    refine ⟨.ref T, _, I1, rfl, ⟨T, x, rfl, I.hok.fresh hTn, rfl, fun ys hy => by rw [sq_inj I hy hq]; exact hx⟩, ⟨⟨old', ?_⟩, hit', hne⟩, fun b hb => ?_⟩
    · have e1 : ((i + 1 : Nat) : Int) = 0 + ((i + 1 : Nat) : Int) := by omega
      rw [e1]; exact he'
    · have hb' : b < s.heap.objs.size := by
        have e' : b = e ∨ b = it := by simpa using hb
        rcases e' with z | z
        · rw [z]; exact hel
        · rw [z]; exact hil
      rw [upd_ne (Nat.ne_of_lt (Nat.lt_of_lt_of_le hb' hTn))]
      exact (hf b hb).1
  done := by
    intro X hP hw hK hc i pins s σ H E I hf st hg
    subst hP hw hK
    obtain ⟨⟨old, he⟩, hit, hne⟩ := st
    obtain ⟨xs, hq, hx⟩ := hg
    obtain ⟨its, rv, p, hz⟩ := sq_read I hq
    have hl := rv.length
    have ei : i = its.toArray.size := by simp; omega
    have D : Draws X.prog X.w X.A.in1 it [it, a] its.toArray.size (fun i v => its.toArray[i]? = some v) (fun i h => ItK k h it a i ∧ IsK k h a its.toArray) := drawsK (by first | exact I.ok.hd hc | exact (I.ok.hd hc)) it a hia its.toArray
    have hef : e ∉ [it, a] := by
      intro z
      have : e = it ∨ e = a := by simpa using z
      rcases this with z | z
      · exact hne z
      · exact hea z
    have W := GoesN.enumFrom (elts := elts) (x1 := kk) (pos := tpos) 0 D e hne hef (by simp)
    subst ei
    exact W.stops s _ _ ⟨⟨old, by rw [Int.zero_add]; exact he⟩, hit, p⟩ fun h' tk hk htk => I.turnedL (t' := tk) (ch := [e, it]) (fun b o hb q => hk b o hb q) hf
  self := fun A i s Q E st h => let ⟨⟨_, he⟩, _⟩ := st; wpAny_pyIter_enum he h

theorem meets_enumerate_newT (l : Addr) (items : Array Value) (n : Nat) (dct : Option Addr) (sl : Array (Option Value)) :
    Meets (Builtin.«enumerate.__new__» ⟨[.type "enumerate", .ref l], []⟩) (fun _ R s => s.heap.get? l = some { cls := .type "tuple", dict := dct, data := .seq items n, slots := sl } ∧
      R (.ok (.ret (.ref (s.heap.push { cls := .type "tuple_iterator", data := .fields #[.ref l, .int 0 0] }).objs.size)))
        { s with heap := (s.heap.push { cls := .type "tuple_iterator", data := .fields #[.ref l, .int 0 0] }).push { cls := .type "enumerate", data := .fields #[.none, .bool false, .ref s.heap.objs.size, rawInt 0, .none, .none] } }) :=
  .of_wp fun prog w A R s h => by
    obtain ⟨hp, g, d, tk, os⟩ := s; obtain ⟨hl, h⟩ := h
    have hsub := sub_enumerate
    have hL : Heap.IsTuple (Shared.heap ⟨hp, g, d, tk, os⟩) l items := ⟨_, hl, rfl, n, rfl⟩
    wp_walk using wpAny_loadPart' hl
    refine wpAny_stack_any fun st => wpAny_pure ?_
    split
    · rename_i c _ _ _ _ _
      cases (c == Value.type "enumerate")
      · wp_walk using wpAny_loadPart' hl, wpAny_pyIter_tuple hL
        exact ⟨_, rfl, h⟩
      · wp_walk using wpAny_loadPart' hl, wpAny_pyIter_tuple hL
        exact ⟨_, rfl, h⟩
    · wp_walk using wpAny_loadPart' hl, wpAny_pyIter_tuple hL
      exact ⟨_, rfl, h⟩
theorem call_enumerate_tuple {prog : Program} {w : World} {A : Around} {E : Value → Shared → Prop} {s : Shared} {l : Addr} {items : Array Value} {Q : Value → Shared → Prop} (hL : s.heap.IsTuple l items)
    (h : ∀ h', IsEnum h' (s.heap.objs.size + 1) s.heap.objs.size 0 .none → h'.IsTupleIter s.heap.objs.size l 0 → h'.objs.size = s.heap.objs.size + 2 →
      (∀ b o, s.heap.get? b = some o → h'.get? b = some o) → Q (.ref (s.heap.objs.size + 1)) { s with heap := h' }) :
    wpAny (model prog w) A (call (.type "enumerate") [.ref l]) Q E s := by
  obtain ⟨⟨c, dct, dt, sl⟩, hl, hc, n, hd⟩ := hL
  replace hc : c = .type "tuple" := hc
  replace hd : dt = .seq items n := hd
  subst hc hd
  refine callType_new F.called_enumerate (by decide) (F.typeCall_enumerate_1 _) (F.newCall_enumerate_1 _) (fun obj => F.args_object_init_2 obj _) F.entry_enumerate_new
    (meets_enumerate_newT l items n dct sl) ⟨hl, ?_⟩
  have hz : (s.heap.push { cls := .type "tuple_iterator", data := .fields #[.ref l, .int 0 0] }).objs.size = s.heap.objs.size + 1 := Heap.size_push ..
  show _ ∧ _
  rw [hz]
  have he : IsEnum ((s.heap.push { cls := .type "tuple_iterator", data := .fields #[.ref l, .int 0 0] }).push
      { cls := .type "enumerate", data := .fields #[.none, .bool false, .ref s.heap.objs.size, rawInt 0, .none, .none] }) (s.heap.objs.size + 1) s.heap.objs.size 0 .none := by
    have := Heap.get?_push_size (s.heap.push { cls := .type "tuple_iterator", data := .fields #[.ref l, .int 0 0] })
      (o := { cls := .type "enumerate", data := .fields #[.none, .bool false, .ref s.heap.objs.size, rawInt 0, .none, .none] }) rfl
    rw [hz] at this; exact this
  refine ⟨⟨_, he, rfl⟩, h _ he ⟨_, Heap.get?_push_of_some _ (Heap.get?_push_size _ rfl), rfl, rfl⟩ (by rw [Heap.size_push, hz]) fun b o x => Heap.get?_push_of_some _ (Heap.get?_push_of_some _ x)⟩
theorem call_enumK {prog : Program} {w : World} {A : Around} {E : Value → Shared → Prop} {s : Shared} {k : Bool} {l : Addr} {items : Array Value} {Q : Value → Shared → Prop} (hL : IsK k s.heap l items)
    (h : ∀ h', IsEnum h' (s.heap.objs.size + 1) s.heap.objs.size 0 .none → ItK k h' s.heap.objs.size l 0 → h'.objs.size = s.heap.objs.size + 2 →
      (∀ b o, s.heap.get? b = some o → h'.get? b = some o) → Q (.ref (s.heap.objs.size + 1)) { s with heap := h' }) :
    wpAny (model prog w) A (call (.type "enumerate") [.ref l]) Q E s := by
  cases k with
  | true => exact call_enumerate_tuple hL h
  | false => exact call_enumerate_list hL h
def iEnum2 (K : PySem.W.Frag) (ta : TA) : TI := fun σ H R => ta σ H fun vs H1 => ∃ k a xs, vs = [.ref a] ∧ SqK k K H1 a xs ∧ R (Ite2 k K a) H1
theorem pi_enum2 {X : Cx} {e : Expr} {ta : TA} {p pos tpos : Pos} {elts : List Expr} {kk : Nat} (hg : Gl X "enumerate") (hm : X.mg "enumerate" = none) (ha : PA X [e] ta) (hs : starEach [e] X.env = [(false, eval e X.env)]) :
    PI X (.Tuple elts kk tpos) (.Call (.Name "enumerate" p) [e] [] pos) (iEnum2 X.K ta) := by
  refine ⟨fun pins s σ H R I h => ?_⟩
  refine Call_ (ld_blt I hg hm boot_enumerate (PyProof.Rows.callWith_type1 (thn (ha.run pos pins s σ H _ I h) fun us s1 ⟨vs, H1, I1, r1, q1⟩ => ?_) hs rfl))
  obtain ⟨k, a, xs, ex, hq, q⟩ := q1
  subst ex
  cases r1 with
  | cons r rr =>
    cases rr
    cases r
    obtain ⟨its, rv, p', hz⟩ := sq_read I1 hq
    have hal := ik_lt p'
    refine call_enumK p' fun h' he hit hsz hk => wpAny_pyIter_enum he ?_
    have I2 : Inv X pins σ H1 { s1 with heap := h' } := I1.kept (t' := s1.toks) hk
    refine ⟨s1.heap.objs.size + 1, [s1.heap.objs.size + 1, s1.heap.objs.size], _, _, H1, rfl, I2, turn_enum2 k a (s1.heap.objs.size + 1) s1.heap.objs.size (Nat.ne_of_gt (Nat.lt_succ_of_lt hal)) (Nat.ne_of_lt hal), ⟨⟨.none, he⟩, hit, Nat.succ_ne_self _⟩, fun b hb => ?_, q⟩
    have e' : b = s1.heap.objs.size + 1 ∨ b = s1.heap.objs.size := by simpa using hb
    have hle : s1.heap.objs.size ≤ b := by
      rcases e' with z | z
      · rw [z]; exact Nat.le_add_right _ _
      · rw [z]; exact Nat.le_refl _
    exact I1.fpOk hle (I1.hok.fresh hle)

/-! ### zip of two -/
def Itz2 (k1 k2 : Bool) (K : PySem.W.Frag) (a b : Addr) : It :=
  ⟨fun i H => ∃ (xs ys : List V) (x y : V), SqK k1 K H a xs ∧ SqK k2 K H b ys ∧ xs[i]? = some x ∧ ys[i]? = some y,
    fun i H v H' => ∃ T x y, v = .ref T ∧ H T = none ∧ H' = upd H T (.tup [x, y]) ∧ (∀ xs, SqK k1 K H a xs → xs[i]? = some x) ∧ ∀ ys, SqK k2 K H b ys → ys[i]? = some y,
    fun i H => ∃ xs ys : List V, SqK k1 K H a xs ∧ SqK k2 K H b ys ∧ i = min xs.length ys.length⟩
theorem nin2 {x y z : Nat} (h1 : x ≠ y) (h2 : x ≠ z) : x ∉ [y, z] := by
  intro q
  rcases List.mem_cons.mp q with q | q
  · exact h1 q
  · exact h2 (List.mem_singleton.mp q)
theorem zsep {N a b : Nat} (ha : a < N) (hb : b < N) : ZipSep2 (N + 4) (N + 2) (N + 3) N (N + 1) [N, a] [N + 1, b] :=
  ⟨show (N + 2 : Nat) ≠ N + 4 by omega, show (N + 3 : Nat) ≠ N + 4 by omega, show (N + 2 : Nat) ≠ N + 3 by omega, show (N + 2 : Nat) ≠ N by omega, by simp, nin2 (by omega) (by omega), nin2 (by omega) (by omega),
    show (N + 2 : Nat) ≠ N + 1 by omega, by simp, nin2 (by omega) (by omega), nin2 (by omega) (by omega), nin2 (by omega) (by omega), nin2 (by omega) (by omega)⟩
theorem turn_zip2 {P : Program} {w : World} {K : PySem.W.Frag} {elts : List Expr} {kk : Nat} {tpos : Pos} (k1 k2 : Bool) {a b N : Addr} (hla : a < N) (hlb : b < N) :
    Turn P w K (.Tuple elts kk tpos) (Itz2 k1 k2 K a b) [N + 4, N + 2, N + 3, N, N + 1] (N + 4) (fun i h => IsZip h (N + 4) (N + 2) (N + 3) .none ∧ IsTupOf2 h (N + 2) (.ref N) (.ref (N + 1)) ∧ (∃ x y, IsTupOf2 h (N + 3) x y) ∧ ItK k1 h N a i ∧ ItK k2 h (N + 1) b i) where
  mem := by simp
  obj := fun i h st c hc => by
    obtain ⟨hz, hTI, ⟨x, y, hTO⟩, h1, h2⟩ := st
    have e' : c = N + 4 ∨ c = N + 2 ∨ c = N + 3 ∨ c = N ∨ c = N + 1 := by simpa using hc
    rcases e' with q | q | q | q | q
    · rw [q]; exact ⟨_, hz, fun v q => nomatch q⟩
    · rw [q]; exact ⟨_, hTI, fun v q => nomatch q⟩
    · rw [q]; exact ⟨_, hTO, fun v q => nomatch q⟩
    · rw [q]; exact itk_obj h1
    · rw [q]; exact itk_obj h2
  keep := fun i h h' st k => by
    obtain ⟨hz, hTI, ⟨x, y, hTO⟩, h1, h2⟩ := st
    exact ⟨k _ (by simp) _ hz, k _ (by simp) _ hTI, ⟨x, y, k _ (by simp) _ hTO⟩, itk_at h1 fun o q => k _ (by simp) o q, itk_at h2 fun o q => k _ (by simp) o q⟩
  item := by
    intro X hP hw hK hc i pins s σ H E I hf st hg
    subst hP hw hK
    obtain ⟨hz, hTI, ⟨x0, y0, hTO⟩, h1, h2⟩ := st
    obtain ⟨xs, ys, x, y, hqx, hqy, hx, hy⟩ := hg
    obtain ⟨its, rv, p, _⟩ := sq_read I hqx
    obtain ⟨its2, rv2, p2, _⟩ := sq_read I hqy
    obtain ⟨u, hu, ru⟩ := rv.get hx
    obtain ⟨u2, hu2, ru2⟩ := rv2.get hy
    have D1 : Draws X.prog X.w X.A.in1 N [N, a] its.toArray.size (fun i v => its.toArray[i]? = some v) (fun i h => ItK k1 h N a i ∧ IsK k1 h a its.toArray) := drawsK (by first | exact I.ok.hd hc | exact (I.ok.hd hc)) N a (Nat.ne_of_lt hla) its.toArray
    have D2 : Draws X.prog X.w X.A.in1 (N + 1) [N + 1, b] its2.toArray.size (fun i v => its2.toArray[i]? = some v) (fun i h => ItK k2 h (N + 1) b i ∧ IsK k2 h b its2.toArray) := drawsK (by first | exact I.ok.hd hc | exact (I.ok.hd hc)) (N + 1) b (Nat.ne_of_lt (Nat.lt_succ_of_lt hlb)) its2.toArray
    have W := GoesN.zip2 (elts := elts) (x1 := kk) (pos := tpos) (zsep hla hlb) D1 D2
    have hsz : i < min its.toArray.size its2.toArray.size := by
      obtain ⟨q1, _⟩ := List.getElem?_eq_some_iff.mp hu
      obtain ⟨q2, _⟩ := List.getElem?_eq_some_iff.mp hu2
      simp
      omega
    have low : ∀ c ∈ [N + 4, N + 2, N + 3, N, N + 1], c < s.heap.objs.size := fun c hcm => by
      have e' : c = N + 4 ∨ c = N + 2 ∨ c = N + 3 ∨ c = N ∨ c = N + 1 := by simpa using hcm
      rcases e' with q | q | q | q | q
      · rw [q]; exact Heap.lt_size hz
      · rw [q]; exact Heap.lt_size hTI
      · rw [q]; exact Heap.lt_size hTO
      · rw [q]; obtain ⟨_, e1, _⟩ := itk_obj h1; exact Heap.lt_size e1
      · rw [q]; obtain ⟨_, e2, _⟩ := itk_obj h2; exact Heap.lt_size e2
    refine W.goes i s _ _ hsz ⟨hz, hTI, ⟨x0, y0, hTO⟩, ⟨h1, p⟩, h2, p2⟩ fun v h' tk hY st' hk htk => ?_
    obtain ⟨T, v1, v2, rfl, hTn, hv1, hv2, o, hTo, hTc, n, hTd⟩ := hY
    obtain ⟨hz', hTI', hTO', h1', h2'⟩ := st'
    have e1 : v1 = u := by
      have e1 : its.toArray[i]? = some v1 := hv1
      have e2 : its.toArray[i]? = some u := by simpa using hu
      rw [e1] at e2
      exact Option.some.inj e2
    have e2 : v2 = u2 := by
      have e1 : its2.toArray[i]? = some v2 := hv2
      have e2 : its2.toArray[i]? = some u2 := by simpa using hu2
      rw [e1] at e2
      exact Option.some.inj e2
    subst e1 e2
    have new : ObjOk X.prog X.w (upd H T (.tup [x, y])) h' T (.tup [x, y]) :=
      ⟨by show 2 ≤ sizeLine; decide, [v1, v2], .cons ru (.cons ru2 .nil), ⟨o, hTo, hTc, n, hTd⟩⟩
    have I1 : Inv X pins σ (upd H T (.tup [x, y])) { s with heap := h', toks := tk } :=
      I.turnedNew (ch := [N + 4, N + 2, N + 3, N, N + 1]) (fun c o hb q => hk c o (fun z => hb (by
        have z' : c = N + 4 ∨ c = N + 3 ∨ c = N ∨ c = N + 1 := by simpa using z
        simp only [List.mem_cons, List.not_mem_nil, or_false]
        rcases z' with z | z | z | z
        · exact .inl z
        · exact .inr (.inr (.inl z))
        · exact .inr (.inr (.inr (.inl z)))
        · exact .inr (.inr (.inr (.inr z))))) q) hf hTn new
    refine ⟨.ref T, _, I1, rfl, ⟨T, x, y, rfl, I.hok.fresh hTn, rfl, fun l hl => by rw [sq_inj I hl hqx]; exact hx, fun l hl => by rw [sq_inj I hl hqy]; exact hy⟩, ⟨hz', hTI', hTO', h1'.1, h2'.1⟩, fun c hcm => ?_⟩
    rw [upd_ne (Nat.ne_of_lt (Nat.lt_of_lt_of_le (low c hcm) hTn))]
    exact (hf c hcm).1
  done := by
    intro X hP hw hK hc i pins s σ H E I hf st hg
    subst hP hw hK
    obtain ⟨hz, hTI, ⟨x0, y0, hTO⟩, h1, h2⟩ := st
    obtain ⟨xs, ys, hqx, hqy, hend⟩ := hg
    obtain ⟨its, rv, p, _⟩ := sq_read I hqx
    obtain ⟨its2, rv2, p2, _⟩ := sq_read I hqy
    have l1 := rv.length
    have l2 := rv2.length
    have D1 : Draws X.prog X.w X.A.in1 N [N, a] its.toArray.size (fun i v => its.toArray[i]? = some v) (fun i h => ItK k1 h N a i ∧ IsK k1 h a its.toArray) := drawsK (by first | exact I.ok.hd hc | exact (I.ok.hd hc)) N a (Nat.ne_of_lt hla) its.toArray
    have D2 : Draws X.prog X.w X.A.in1 (N + 1) [N + 1, b] its2.toArray.size (fun i v => its2.toArray[i]? = some v) (fun i h => ItK k2 h (N + 1) b i ∧ IsK k2 h b its2.toArray) := drawsK (by first | exact I.ok.hd hc | exact (I.ok.hd hc)) (N + 1) b (Nat.ne_of_lt (Nat.lt_succ_of_lt hlb)) its2.toArray
    have W := GoesN.zip2 (elts := elts) (x1 := kk) (pos := tpos) (zsep hla hlb) D1 D2
    have ei : i = min its.toArray.size its2.toArray.size := by simp; omega
    subst ei
    exact W.stops s _ _ ⟨hz, hTI, ⟨x0, y0, hTO⟩, ⟨h1, p⟩, h2, p2⟩ fun h' tk hk htk => I.turnedL (t' := tk) (ch := [N + 4, N + 2, N + 3, N, N + 1]) (fun c o hb q => hk c o (fun z => hb (by
        have z' : c = N + 4 ∨ c = N + 3 ∨ c = N ∨ c = N + 1 := by simpa using z
        simp only [List.mem_cons, List.not_mem_nil, or_false]
        rcases z' with z | z | z | z
        · exact .inl z
        · exact .inr (.inr (.inl z))
        · exact .inr (.inr (.inr (.inl z)))
        · exact .inr (.inr (.inr (.inr z))))) q) hf
  self := fun A i s Q E st h => wpAny_pyIter_zip st.1 h
def iZip2 (K : PySem.W.Frag) (ta : TA) : TI := fun σ H R => ta σ H fun vs H1 => ∃ k1 k2 a b xs ys, vs = [.ref a, .ref b] ∧ SqK k1 K H1 a xs ∧ SqK k2 K H1 b ys ∧ R (Itz2 k1 k2 K a b) H1
theorem pi_zip2 {X : Cx} {e e2 : Expr} {ta : TA} {p pos tpos : Pos} {elts : List Expr} {kk : Nat} (hg : Gl X "zip") (hm : X.mg "zip" = none) (ha : PA X [e, e2] ta)
    (hs : starEach [e, e2] X.env = (false, eval e X.env) :: starEach [e2] X.env) (hpl : (backTo pos (starEach [e2] X.env)).any (·.1) = false) :
    PI X (.Tuple elts kk tpos) (.Call (.Name "zip" p) [e, e2] [] pos) (iZip2 X.K ta) := by
  refine ⟨fun pins s σ H R I h => ?_⟩
  refine Call_ (ld_blt I hg hm PyProof.Rows.boot_zip (PyProof.Rows.callWith_type1 (thn (ha.run pos pins s σ H _ I h) fun us s1 ⟨vs, H1, I1, r1, q1⟩ => ?_) hs hpl))
  obtain ⟨k1, k2, a, b, xs, ys, ex, hqx, hqy, q⟩ := q1
  subst ex
  cases r1 with
  | cons r rr =>
    cases rr with
    | cons r' rr =>
      cases rr
      cases r
      cases r'
      have fresh5 : ∀ c, c ∈ [s1.heap.objs.size + 4, s1.heap.objs.size + 2, s1.heap.objs.size + 3, s1.heap.objs.size, s1.heap.objs.size + 1] → FpOk X pins H1 c := fun c hcm => by
        have e' : c = s1.heap.objs.size + 4 ∨ c = s1.heap.objs.size + 2 ∨ c = s1.heap.objs.size + 3 ∨ c = s1.heap.objs.size ∨ c = s1.heap.objs.size + 1 := by simpa using hcm
        have hle : s1.heap.objs.size ≤ c := by
          rcases e' with z | z | z | z | z
          · rw [z]; exact Nat.le_add_right _ _
          · rw [z]; exact Nat.le_add_right _ _
          · rw [z]; exact Nat.le_add_right _ _
          · rw [z]; exact Nat.le_refl _
          · rw [z]; exact Nat.le_add_right _ _
        exact I1.fpOk hle (I1.hok.fresh hle)
      obtain ⟨its, rv, p1, _⟩ := sq_read I1 hqx
      obtain ⟨its2, rv2, p2, _⟩ := sq_read I1 hqy
      refine zip_begins2 (beginsK k1 a its.toArray) (beginsK k2 b its2.toArray) p1 p2 fun h' hz hTI hTO h1 h2 hsz hk => wpAny_pyIter_zip hz ?_
      have I2 : Inv X pins σ H1 { s1 with heap := h' } := I1.kept (t' := s1.toks) hk
      exact ⟨s1.heap.objs.size + 4, [s1.heap.objs.size + 4, s1.heap.objs.size + 2, s1.heap.objs.size + 3, s1.heap.objs.size, s1.heap.objs.size + 1], _, _, H1, rfl, I2, turn_zip2 k1 k2 (ik_lt p1) (ik_lt p2), ⟨hz, hTI, ⟨_, _, hTO⟩, beg_it h1, beg_it h2⟩, fresh5, q⟩
end Dn
set_option Elab.async false
set_option linter.all false
set_option maxRecDepth 100000
set_option maxHeartbeats 4000000
/-! Dn 5: what is walked, targets, comprehensions. -/
namespace Dn
open PySem PySem.Spec PyProof.Rows L2

/-! ### what is walked -/
def WalkD (K : PySem.W.Frag) (P : Addr) (F : Hp) (J : It) (ds : List D) : Prop := ∃ (n : Nat) (G : Hp → Prop) (Y : Nat → Hp → V → Hp → Prop), Walk J n G Y ∧ n = ds.length ∧ (∀ F1 H1, Sub F F1 → Sub F1 H1 → G H1) ∧
  ∀ i H1 x H2 F1 d, Sub F F1 → Sub F1 H1 → Y i H1 x H2 → ds[i]? = some d → ∃ F2, Ext F1 H1 F2 H2 ∧ Rep K P F2 d x
def cI (K : PySem.W.Frag) (f : DL) : TI := fun σ H R => ∃ P F0 G0 F ρ p ds p', Rel K P F0 G0 F H ρ σ p ∧ f ρ p = some (ds, p') ∧
  ∀ J F' H', Step P F H F' H' → PenAt K P F' H' p' → WalkD K P F' J ds → R J H'
theorem PI.imp {X : Cx} {tg e : Expr} {t t' : TI} (h : PI X tg e t) (i : ∀ σ H R, t' σ H R → t σ H R) : PI X tg e t' := ⟨fun pins s σ H R I q => h.run pins s σ H R I (i σ H R q)⟩
/-- a list, a tuple or a text, as a value that is walked -/
def rSeqI (K : PySem.W.Frag) (x : V) (H : Hp) (R : It → Hp → Prop) : Prop :=
  (∃ a, x = .ref a ∧ (∃ xs, SqL K H a xs) ∧ R (Itl K a) H) ∨ (∃ a, x = .ref a ∧ (∃ xs, SqT K H a xs) ∧ R (Itt K a) H) ∨ ∃ z, x = .str z ∧ R (Its z) H
theorem pi_seq {X : Cx} {tg l : Expr} {tl : TE} (hl : PE X l tl) : PI X tg l (fun σ H R => tl σ H fun x H1 => rSeqI X.K x H1 R) := by
  refine ⟨fun pins s σ H R I h => ?_⟩
  refine thn (hl.run pins s σ H _ I h) fun v s1 ⟨x, H1, I1, r1, q1⟩ => ?_
  have fp : ∀ b ∈ [s1.heap.objs.size], FpOk X pins H1 b := fun b hb => by
    have e : b = s1.heap.objs.size := by simpa using hb
    subst e
    exact I1.fpOk (Nat.le_refl _) (I1.hok.fresh (Nat.le_refl _))
  rcases q1 with ⟨a, e, ⟨xs, hq⟩, q⟩ | ⟨a, e, ⟨xs, hq⟩, q⟩ | ⟨z, e, q⟩
  · subst e
    cases r1
    obtain ⟨its, rv, p, hz⟩ := I1.list hq
    refine wpAny_pyIter_list p.isList ?_
    exact ⟨s1.heap.objs.size, [s1.heap.objs.size], _, _, H1, rfl, I1.kept (t' := s1.toks) fun b o e => Heap.get?_push_of_some _ e, turn_list a _, ⟨_, Heap.get?_push_size _ rfl, rfl, rfl⟩, fp, q⟩
  · subst e
    cases r1
    obtain ⟨its, rv, p, hz⟩ := I1.tuple hq
    refine wpAny_pyIter_tuple (show s1.heap.IsTuple a its.toArray from p) ?_
    exact ⟨s1.heap.objs.size, [s1.heap.objs.size], _, _, H1, rfl, I1.kept (t' := s1.toks) fun b o e => Heap.get?_push_of_some _ e, turn_tuple a _, ⟨_, Heap.get?_push_size _ rfl, rfl, rfl⟩, fp, q⟩
  · subst e
    obtain ⟨t, rfl⟩ := r1
    cases ha : z.cps.all (· < 128)
    · exact wpAny_pyIter_wide ha (pi_one (tk := s1.toks) I1 _ (turn_str _ z t "str_iterator" (.inr rfl)) ⟨_, Heap.get?_push_size _ rfl, rfl, rfl⟩ q)
    · exact wpAny_pyIter_ascii ha (pi_one (tk := s1.toks) I1 _ (turn_str _ z t "str_ascii_iterator" (.inl rfl)) ⟨_, Heap.get?_push_size _ rfl, rfl, rfl⟩ q)
/-- the items that a walk over a value gives -/
def D.walk : D → Option (List D)
  | .lst xs => some xs
  | .tup xs => some xs
  | .str z => some (z.cps.toList.map fun c => .str ⟨#[c]⟩)
  | _ => none
def iSeq (f : DE) : DL := fun ρ p => (f ρ p).bind fun x => x.1.walk.map fun xs => (xs, x.2)
def iRng1 (f : DE) : DL := fun ρ p => (f ρ p).bind fun x => match x.1 with
  | .int j => if -(2 ^ 62) ≤ j ∧ j < 2 ^ 62 then some ((List.range j.toNat).map fun i : Nat => .int i, x.2) else none
  | _ => none
def iRng2 (l : DL) : DL := fun ρ p => (l ρ p).bind fun x => match x.1 with
  | [.int i, .int j] => if -(2 ^ 62) ≤ i ∧ i < 2 ^ 62 ∧ -(2 ^ 62) ≤ j ∧ j < 2 ^ 62 then some ((List.range (j - i).toNat).map fun k : Nat => .int (i + k), x.2) else none
  | _ => none
def pairs : Nat → List D → List D
  | _, [] => []
  | i, d :: ds => .wtup [.int i, d] :: pairs (i + 1) ds
def iEnu (l : DL) : DL := fun ρ p => (l ρ p).bind fun x => match x.1 with
  | [y] => y.its.map fun xs => (pairs 0 xs, x.2)
  | _ => none
def zipD (xs ys : List D) : List D := (xs.zip ys).map fun q => .wtup [q.1, q.2]
def iZp (l : DL) : DL := fun ρ p => (l ρ p).bind fun x => match x.1 with
  | [y, z] => y.its.bind fun xs => z.its.map fun ys => (zipD xs ys, x.2)
  | _ => none
section
variable {X : Cx} {tg e e2 : Expr} {f : DE} {l : DL} {pos p1 tpos : Pos}
theorem xi_seq (h : PE X e (cE X.K f)) : PI X tg e (cI X.K (iSeq f)) := PI.imp (pi_seq h) fun σ H R ⟨P, F0, G0, F, ρ, p, ds, p', L, e, k⟩ => by
  simp only [iSeq, Option.bind_eq_some_iff, Option.map_eq_some_iff, Prod.mk.injEq] at e
  obtain ⟨⟨x, p1⟩, e1, xs, e2, rfl, rfl⟩ := e
  refine ⟨P, F0, G0, F, ρ, p, x, p1, L, e1, fun v F1 H1 s q r => ?_⟩
  cases x with
  | lst ys =>
    cases e2
    unfold Rep at r
    obtain ⟨a, vs, rfl, h1, z, t⟩ := r
    have h1 : SqL X.K F1 a vs := SqL.of h1
    refine .inl ⟨a, rfl, ⟨vs, s.fh.sqL h1⟩, k _ F1 H1 s q ⟨vs.length, _, _, walk_list (K := X.K) (a := a) (xs := vs), t.length.symm, fun F2 H2 f1 f2 => f2.sqL (f1.sqL h1), fun i H2 x H3 F2 d f1 f2 y e => ?_⟩⟩
    obtain ⟨rfl, y⟩ := y
    obtain ⟨w, e1, r⟩ := t.get e
    rw [e1] at y
    cases y
    exact ⟨F2, Ext.refl f2, r.mono f1⟩
  | tup ys =>
    cases e2
    unfold Rep at r
    obtain ⟨a, vs, rfl, h1, z, t⟩ := r
    have h1 : SqT X.K F1 a vs := h1.t
    refine .inr (.inl ⟨a, rfl, ⟨vs, s.fh.sqT h1⟩, k _ F1 H1 s q ⟨vs.length, _, _, walk_tup (K := X.K) (a := a) (xs := vs), t.length.symm, fun F2 H2 f1 f2 => f2.sqT (f1.sqT h1), fun i H2 x H3 F2 d f1 f2 y e => ?_⟩⟩)
    obtain ⟨rfl, y⟩ := y
    obtain ⟨w, e1, r⟩ := t.get e
    rw [e1] at y
    cases y
    exact ⟨F2, Ext.refl f2, r.mono f1⟩
  | str z =>
    cases e2
    unfold Rep at r
    subst r
    refine .inr (.inr ⟨z, rfl, k _ F1 H1 s q ⟨z.cps.size, _, _, walk_str, by simp, fun _ _ _ _ => trivial, fun i H2 x H3 F2 d f1 f2 y e => ?_⟩⟩)
    obtain ⟨rfl, c, y, rfl⟩ := y
    rw [List.getElem?_map] at e
    have e3 : z.cps.toList[i]? = some c := by simpa using y
    rw [e3] at e
    cases e
    exact ⟨F2, Ext.refl f2, r_str⟩
  | _ => cases e2
theorem xi_rng1 (h : PE X e (cB X.K f)) (n : notStar e = true) (hG : Gl X "range") (hm : X.mg "range" = none) : PI X tg (.Call (.Name "range" p1) [e] [] pos) (cI X.K (iRng1 f)) :=
  PI.imp (pi_range1 hG hm (pa_cons h pa_nil (star_plain n)) (by rw [star_plain n]; rfl)) fun σ H R ⟨P, F0, G0, F, ρ, p, ds, p', L, e, k⟩ => by
    simp only [iRng1, Option.bind_eq_some_iff] at e
    obtain ⟨⟨x, p1⟩, e1, e2⟩ := e
    refine ⟨P, F0, G0, F, ρ, p, x, p1, L, e1, fun v F1 H1 s q r => ?_⟩
    cases x with
    | int j =>
      cases d_int r
      simp only at e2
      split at e2
      · rename_i hb
        simp only [Option.some.injEq, Prod.mk.injEq] at e2
        obtain ⟨rfl, rfl⟩ := e2
        refine ⟨j, rfl, hb.1, hb.2, k _ F1 H1 s q ⟨j.toNat, _, _, walk_range, by simp, fun _ _ _ _ => trivial, fun i H2 x H3 F2 d f1 f2 y e => ?_⟩⟩
        obtain ⟨rfl, rfl⟩ := y
        rw [List.getElem?_map] at e
        obtain ⟨m, e3, rfl⟩ := Option.map_eq_some_iff.mp e
        obtain ⟨h1, h2⟩ := List.getElem?_eq_some_iff.mp e3
        rw [List.getElem_range] at h2
        subst h2
        refine ⟨F2, Ext.refl f2, ?_⟩
        show Rep X.K P F2 (D.int (i : Int)) (V.int (0 + (i : Int)))
        rw [Int.zero_add]
        exact r_int
      · cases e2
    | _ => cases e2
theorem xi_rng2 (h : PA X [e, e2] (cAB X.K l)) (n : notStar e = true) (n2 : notStar e2 = true) (hG : Gl X "range") (hm : X.mg "range" = none) : PI X tg (.Call (.Name "range" p1) [e, e2] [] pos) (cI X.K (iRng2 l)) :=
  PI.imp (pi_range2 hG hm h (by rw [star_plain n, star_plain n2]; rfl) (by rw [star_plain n2]; rfl)) fun σ H R ⟨P, F0, G0, F, ρ, p, ds, p', L, e, k⟩ => by
    simp only [iRng2, Option.bind_eq_some_iff] at e
    obtain ⟨⟨x, p1⟩, e1, e2⟩ := e
    refine ⟨P, F0, G0, F, ρ, p, x, p1, L, e1, fun vs F1 H1 s q r => ?_⟩
    simp only at e2
    split at e2
    · rename_i a b
      split at e2
      · rename_i hb
        simp only [Option.some.injEq, Prod.mk.injEq] at e2
        obtain ⟨rfl, rfl⟩ := e2
        obtain ⟨v, u, rfl, q1, q2⟩ := reps1_2 r
        cases d_int q1
        cases d_int q2
        refine ⟨a, b, rfl, hb, k _ F1 H1 s q ⟨(b - a).toNat, _, _, walk_range, by simp, fun _ _ _ _ => trivial, fun i H2 x H3 F2 d f1 f2 y e => ?_⟩⟩
        obtain ⟨rfl, rfl⟩ := y
        rw [List.getElem?_map] at e
        obtain ⟨m, e3, rfl⟩ := Option.map_eq_some_iff.mp e
        obtain ⟨h1, h2⟩ := List.getElem?_eq_some_iff.mp e3
        rw [List.getElem_range] at h2
        subst h2
        exact ⟨F2, Ext.refl f2, r_int⟩
      · cases e2
    · cases e2
theorem seq_of {K : PySem.W.Frag} {P : Addr} {F : Hp} {y : D} {v : V} {xs : List D} (r : Rep K P F y v) (e : y.its = some xs) : ∃ k a vs, v = .ref a ∧ SqK k K F a vs ∧ Reps K P F xs vs := by
  cases y with
  | lst ys =>
    cases e
    unfold Rep at r
    obtain ⟨a, vs, rfl, h1, z, t⟩ := r
    exact ⟨false, a, vs, rfl, SqL.of h1, t⟩
  | tup ys =>
    cases e
    unfold Rep at r
    obtain ⟨a, vs, rfl, h1, z, t⟩ := r
    exact ⟨true, a, vs, rfl, h1.t, t⟩
  | _ => cases e
theorem Sub.sqK {K : PySem.W.Frag} {F H : Hp} (h : Sub F H) {k : Bool} {a : Addr} {xs : List V} (r : SqK k K F a xs) : SqK k K H a xs := by
  cases k with
  | true => exact h.sqT r
  | false => exact h.sqL r
theorem pairs_get : ∀ (n i : Nat) (ds : List D) (d : D), (pairs n ds)[i]? = some d → ∃ x, ds[i]? = some x ∧ d = .wtup [.int ((n + i : Nat) : Int), x]
  | _, _, [], _, e => by simp [pairs] at e
  | n, 0, x :: ds, d, e => by
    simp [pairs] at e
    exact ⟨x, by simp, by rw [← e]; rfl⟩
  | n, i + 1, x :: ds, d, e => by
    obtain ⟨y, h1, h2⟩ := pairs_get (n + 1) i ds d (by simpa [pairs] using e)
    exact ⟨y, by simpa using h1, by rw [h2]; congr 3; omega⟩
theorem pairs_len : ∀ (n : Nat) (ds : List D), (pairs n ds).length = ds.length
  | _, [] => rfl
  | n, d :: ds => by simp [pairs, pairs_len (n + 1) ds]
theorem walk_enum2 {K : PySem.W.Frag} {k : Bool} {a : Addr} {xs : List V} : Walk (Ite2 k K a) xs.length (fun H => SqK k K H a xs) (YPair (fun i => some (.int (i : Nat))) (fun i => xs[i]?)) := by
  refine ⟨fun i _ hi q => ⟨xs, xs[i], q, by simp [hi]⟩, fun _ q => ⟨xs, q, rfl⟩, fun i H v H' _ q y => ?_⟩
  obtain ⟨T, x, h1, h2, h3, h4⟩ := y
  exact ⟨T, .int (i : Nat), x, h1, h2, h3, rfl, h4 xs q⟩
theorem walk_zip2 {K : PySem.W.Frag} {k1 k2 : Bool} {a b : Addr} {xs ys : List V} : Walk (Itz2 k1 k2 K a b) (min xs.length ys.length) (fun H => SqK k1 K H a xs ∧ SqK k2 K H b ys) (YPair (fun i => xs[i]?) (fun i => ys[i]?)) := by
  refine ⟨fun i _ hi q => ?_, fun _ q => ⟨xs, ys, q.1, q.2, rfl⟩, fun i H v H' _ q y => ?_⟩
  · have h1 : i < xs.length := by omega
    have h2 : i < ys.length := by omega
    exact ⟨xs, ys, xs[i], ys[i], q.1, q.2, by simp [h1], by simp [h2]⟩
  · obtain ⟨T, x, z, h1, h2, h3, h4, h5⟩ := y
    exact ⟨T, x, z, h1, h2, h3, h4 xs q.1, h5 ys q.2⟩
/-- a new pair -/
theorem new_pair {K : PySem.W.Frag} {P : Addr} {F1 H2 H3 : Hp} {x y : D} {v : V} {T : Addr} {v1 v2 : V} (s : Sub F1 H2) (ev : v = .ref T) (hT : H2 T = none) (e3 : H3 = upd H2 T (.tup [v1, v2])) (r1 : Rep K P F1 x v1) (r2 : Rep K P F1 y v2) :
    ∃ F2, Ext F1 H2 F2 H3 ∧ Rep K P F2 (.wtup [x, y]) v := by
  subst ev e3
  have E := Ext.new (o := .tup [v1, v2]) s hT
  refine ⟨_, E, ?_⟩
  unfold Rep
  exact ⟨T, _, rfl, upd_same, Nat.le_trans (show 2 ≤ 100 by decide) (by rw [sizeLine_eq]; decide), Reps.cons (r1.mono E.ff) (Reps.cons (r2.mono E.ff) Reps.nil)⟩
theorem xi_enu {elts : List Expr} {kk : Nat} (h : PA X [e] (cA X.K l)) (n : notStar e = true) (hG : Gl X "enumerate") (hm : X.mg "enumerate" = none) : PI X (.Tuple elts kk tpos) (.Call (.Name "enumerate" p1) [e] [] pos) (cI X.K (iEnu l)) :=
  PI.imp (pi_enum2 hG hm h (by rw [star_plain n]; rfl)) fun σ H R ⟨P, F0, G0, F, ρ, p, ds, p', L, e, k⟩ => by
    simp only [iEnu, Option.bind_eq_some_iff] at e
    obtain ⟨⟨x, p1⟩, e1, e2⟩ := e
    refine ⟨P, F0, G0, F, ρ, p, x, p1, L, e1, fun vs F1 H1 s q r => ?_⟩
    simp only at e2
    split at e2
    · rename_i y
      obtain ⟨xs, e3, e4⟩ := Option.map_eq_some_iff.mp e2
      simp only [Prod.mk.injEq] at e4
      obtain ⟨rfl, rfl⟩ := e4
      obtain ⟨v, t, rfl, r1, r2⟩ := r.inv
      rw [Reps.nil_iff] at r2
      subst r2
      obtain ⟨kd, a, us, rfl, h1, rr⟩ := seq_of r1 e3
      refine ⟨kd, a, us, rfl, s.fh.sqK h1, k _ F1 H1 s q ⟨us.length, _, _, walk_enum2 (K := X.K) (k := kd) (a := a) (xs := us), by rw [pairs_len]; exact rr.length.symm, fun F2 H2 f1 f2 => f2.sqK (f1.sqK h1), fun i H2 x H3 F2 d f1 f2 y e => ?_⟩⟩
      obtain ⟨T, v1, v2, ev, hT, e3, e4, e5⟩ := y
      obtain ⟨z, e6, rfl⟩ := pairs_get _ _ _ _ e
      obtain ⟨w, e7, r⟩ := rr.get e6
      have c2 : v2 = w := Option.some.inj (e5.symm.trans e7)
      subst c2
      cases e4
      exact new_pair f2 ev hT e3 (by rw [Nat.zero_add]; exact r_int) (r.mono f1)
    · cases e2
theorem xi_zip {elts : List Expr} {kk : Nat} (h : PA X [e, e2] (cA X.K l)) (n : notStar e = true) (n2 : notStar e2 = true) (hG : Gl X "zip") (hm : X.mg "zip" = none) : PI X (.Tuple elts kk tpos) (.Call (.Name "zip" p1) [e, e2] [] pos) (cI X.K (iZp l)) :=
  PI.imp (pi_zip2 hG hm h (star_plain n) (stars_none (by simp [n2]))) fun σ H R ⟨P, F0, G0, F, ρ, p, ds, p', L, e, k⟩ => by
    simp only [iZp, Option.bind_eq_some_iff] at e
    obtain ⟨⟨x, p1⟩, e1, e2⟩ := e
    refine ⟨P, F0, G0, F, ρ, p, x, p1, L, e1, fun vs F1 H1 s q r => ?_⟩
    simp only at e2
    split at e2
    · rename_i y z
      obtain ⟨xs, e3, e4⟩ := Option.bind_eq_some_iff.mp e2
      obtain ⟨ys, e5, e6⟩ := Option.map_eq_some_iff.mp e4
      simp only [Prod.mk.injEq] at e6
      obtain ⟨rfl, rfl⟩ := e6
      obtain ⟨v, t, rfl, r1, r2⟩ := r.inv
      obtain ⟨u, t, rfl, r4, r3⟩ := r2.inv
      rw [Reps.nil_iff] at r3
      subst r3
      obtain ⟨k1, a, us, rfl, h1, rr1⟩ := seq_of r1 e3
      obtain ⟨k2, b, ws, rfl, h2, rr2⟩ := seq_of r4 e5
      refine ⟨k1, k2, a, b, us, ws, rfl, s.fh.sqK h1, s.fh.sqK h2, k _ F1 H1 s q ⟨min us.length ws.length, _, _, walk_zip2 (K := X.K) (k1 := k1) (k2 := k2) (a := a) (b := b) (xs := us) (ys := ws), by simp [zipD, rr1.length, rr2.length], fun F2 H2 f1 f2 => ⟨f2.sqK (f1.sqK h1), f2.sqK (f1.sqK h2)⟩, fun i H2 x H3 F2 d f1 f2 y e => ?_⟩⟩
      obtain ⟨T, v1, v2, ev, hT, e3, e4, e5⟩ := y
      unfold zipD at e
      rw [List.getElem?_map] at e
      obtain ⟨⟨y1, y2⟩, e6, rfl⟩ := Option.map_eq_some_iff.mp e
      rw [List.getElem?_zip_eq_some] at e6
      obtain ⟨w1, q1, t1⟩ := rr1.get e6.1
      obtain ⟨w2, q2, t2⟩ := rr2.get e6.2
      have c1 : v1 = w1 := Option.some.inj (e4.symm.trans q1)
      have c2 : v2 = w2 := Option.some.inj (e5.symm.trans q2)
      subst c1 c2
      exact new_pair f2 ev hT e3 (t1.mono f1) (t2.mono f1)
    · cases e2
end

/-! ### targets -/
abbrev DG := D → Env → Option Env
def Same1 (is : List Nat) (σ σ' : L2.St) : Prop := σ'.length = σ.length ∧ ∀ j, j ∉ is → σ'[j]? = σ[j]?
def cG (K : PySem.W.Frag) (is : List Nat) (b : DG) : TG := fun v σ H Q => ∃ P F0 G0 F ρ p d ρ', Rel K P F0 G0 F H ρ σ p ∧ Rep K P F d v ∧ b d ρ = some ρ' ∧ ∀ σ', Rel K P F0 G0 F H ρ' σ' p → Same1 is σ σ' → Q σ' H
abbrev DGs := List D → Env → Option Env
def cGs (K : PySem.W.Frag) (is : List Nat) (b : DGs) : TGs := fun vs σ H Q => ∃ P F0 G0 F ρ p ds ρ', Rel K P F0 G0 F H ρ σ p ∧ Reps K P F ds vs ∧ b ds ρ = some ρ' ∧ ∀ σ', Rel K P F0 G0 F H ρ' σ' p → Same1 is σ σ' → Q σ' H
theorem PG.imp {X : Cx} {tg : Expr} {t t' : TG} (h : PG X tg t) (i : ∀ v σ H Q, t' v σ H Q → t v σ H Q) : PG X tg t' := ⟨fun pins s σ H v u Q I r q => h.run pins s σ H v u Q I r (i v σ H Q q)⟩
theorem PGs.imp {X : Cx} {tg : List Expr} {t t' : TGs} (h : PGs X tg t) (i : ∀ v σ H Q, t' v σ H Q → t v σ H Q) : PGs X tg t' := ⟨fun pins s σ H v u Q I r q => h.run pins s σ H v u Q I r (i v σ H Q q)⟩
theorem Same1.refl {is : List Nat} {σ : L2.St} : Same1 is σ σ := ⟨rfl, fun _ _ => rfl⟩
theorem Same1.trans {is js : List Nat} {a b c : L2.St} (h : Same1 is a b) (k : Same1 js b c) : Same1 (is ++ js) a c :=
  ⟨k.1.trans h.1, fun j hj => (k.2 j fun z => hj (List.mem_append_right _ z)).trans (h.2 j fun z => hj (List.mem_append_left _ z))⟩
theorem Same1.set {i : Nat} {σ : L2.St} {v : Option V} : Same1 [i] σ (σ.set i v) := ⟨by simp, fun j hj => by rw [List.getElem?_set_ne (fun e => hj (by simp [e]))]⟩
/-- a name is stored: a frozen value -/
theorem Rel.set {K : PySem.W.Frag} {P : Addr} {F0 : Hp} {G0 : Gd} {F H : Hp} {ρ : Env} {σ : L2.St} {p : Pen} {i : Nat} {d : D} {v : V} (R : Rel K P F0 G0 F H ρ σ p) (r : Rep K P F d v) : Rel K P F0 G0 F H (ρ.set i (.sh d)) (σ.set i (some v)) p := by
  refine ⟨R.step, R.pen, by simp [R.len], fun j c e => ?_, fun j k c e hjk hj hk h1 h2 => ?_⟩
  · by_cases hij : i = j
    · subst hij
      by_cases hl : i < ρ.length
      · rw [List.getElem?_set_self hl] at e
        cases e
        exact ⟨some v, by rw [List.getElem?_set_self (by rw [← R.len]; exact hl)], v, rfl, r⟩
      · rw [List.getElem?_eq_none (by simpa using hl)] at e
        cases e
    · rw [List.getElem?_set_ne hij] at e
      obtain ⟨ov, e1, h⟩ := R.cell j c e
      exact ⟨ov, by rw [List.getElem?_set_ne hij]; exact e1, h⟩
  · have nj : i ≠ j := fun z => by
      subst z
      by_cases hl : i < ρ.length
      · rw [List.getElem?_set_self hl] at hj
        cases hj
        cases h1
      · rw [List.getElem?_eq_none (by simpa using hl)] at hj
        cases hj
    have nk : i ≠ k := fun z => by
      subst z
      by_cases hl : i < ρ.length
      · rw [List.getElem?_set_self hl] at hk
        cases hk
        cases h2
      · rw [List.getElem?_eq_none (by simpa using hl)] at hk
        cases hk
    rw [List.getElem?_set_ne nj] at hj ⊢
    rw [List.getElem?_set_ne nk] at hk ⊢
    exact R.dis j k c e hjk hj hk h1 h2
def bNm (i : Nat) : DG := fun d ρ => some (ρ.set i (.sh d))
def bNil : DGs := fun ds ρ => match ds with
  | [] => some ρ
  | _ => none
def bCons (b : DG) (bs : DGs) : DGs := fun ds ρ => match ds with
  | d :: ds => (b d ρ).bind fun ρ1 => bs ds ρ1
  | [] => none
def D.parts : D → Option (List D)
  | .tup ds => some ds
  | .wtup ds => some ds
  | _ => none
theorem parts_of {K : PySem.W.Frag} {P : Addr} {F : Hp} {d : D} {v : V} {ds : List D} (r : Rep K P F d v) (e : d.parts = some ds) : ∃ a vs, v = .ref a ∧ SqT K F a vs ∧ Reps K P F ds vs := by
  cases d with
  | tup xs =>
    cases e
    unfold Rep at r
    obtain ⟨a, vs, rfl, q, _, t⟩ := r
    exact ⟨a, vs, rfl, q.t, t⟩
  | wtup xs =>
    cases e
    unfold Rep at r
    obtain ⟨a, vs, rfl, q, _, t⟩ := r
    exact ⟨a, vs, rfl, SqT.of q, t⟩
  | _ => cases e
def bTup (n : Nat) (bs : DGs) : DG := fun d ρ => d.parts.bind fun ds => if ds.length = n then bs ds ρ else none
theorem assign_len {env : PySem.Env} : ∀ {es : List Expr}, (assignEach es env).length = es.length
  | [] => rfl
  | e :: es => by
    cases e <;> simp [assignEach, assign_len (es := es)]
theorem assign_plain {env : PySem.Env} {e : Expr} {es : List Expr} (h : notStar e = true) : assignEach (e :: es) env = (false, assign e env) :: assignEach es env := by
  cases e <;> first | rfl | cases h
theorem assign_nostar {env : PySem.Env} : ∀ {es : List Expr}, es.all notStar = true → (assignEach es env).findIdx? (·.1) = none
  | [], _ => rfl
  | e :: es, h => by
    rw [List.all_cons, Bool.and_eq_true] at h
    rw [assign_plain h.1, List.findIdx?_cons]
    simp [assign_nostar h.2]
section
variable {X : Cx} {e : Expr} {es : List Expr} {b : DG} {bs : DGs} {is js : List Nat} {x : Str} {i : Nat} {pos : Pos}
theorem xg_name (hN : X.N.Nodup) (hi : X.N[i]? = some x) (hx : Loc X.env.scope x) (hf : X.fn x = true ∨ X.env.scope.names.lookup x = some .local) : PG X (.Name x pos) (cG X.K [i] (bNm i)) :=
  PG.imp (pg_name hN hi hx hf) fun v σ H Q ⟨P, F0, G0, F, ρ, p, d, ρ', R, r, e, k⟩ => by
    simp only [bNm, Option.some.injEq] at e
    subst e
    exact k _ (R.set r) Same1.set
theorem xg_nil : PGs X [] (cGs X.K [] bNil) := PGs.imp pgs_nil fun v σ H Q ⟨P, F0, G0, F, ρ, p, ds, ρ', R, r, e, k⟩ => by
  unfold bNil at e
  split at e
  · simp only [Option.some.injEq] at e
    subst e
    rw [Reps.nil_iff] at r
    exact ⟨r, k _ R Same1.refl⟩
  · cases e
theorem xg_cons (h : PG X e (cG X.K is b)) (t : PGs X es (cGs X.K js bs)) (n : notStar e = true) : PGs X (e :: es) (cGs X.K (is ++ js) (bCons b bs)) :=
  PGs.imp (pgs_cons h t (by rw [assign_plain n]; rfl)) fun vs σ H Q ⟨P, F0, G0, F, ρ, p, ds, ρ', R, r, e, k⟩ => by
    unfold bCons at e
    split at e
    · obtain ⟨ρ1, e1, e2⟩ := Option.bind_eq_some_iff.mp e
      obtain ⟨v, vs, rfl, r1, r2⟩ := r.inv
      exact ⟨v, vs, rfl, P, F0, G0, F, ρ, p, _, ρ1, R, r1, e1, fun σ1 R1 s1 => ⟨P, F0, G0, F, ρ1, p, _, ρ', R1, r2, e2, fun σ2 R2 s2 => k σ2 R2 (s1.trans s2)⟩⟩
    · cases e
theorem xg_tup {kk : Nat} (hc : X.calm = true) (h : PGs X es (cGs X.K is bs)) (n : es.all notStar = true) : PG X (.Tuple es kk pos) (cG X.K is (bTup es.length bs)) :=
  PG.imp (pg_tup hc h assign_len (assign_nostar n)) fun v σ H Q ⟨P, F0, G0, F, ρ, p, d, ρ', R, r, e, k⟩ => by
    unfold bTup at e
    obtain ⟨ds, e1, e⟩ := Option.bind_eq_some_iff.mp e
    split at e
    · rename_i hl
      obtain ⟨a, vs, rfl, q, t⟩ := parts_of r e1
      exact ⟨a, vs, rfl, R.sub.sqT q, by rw [← t.length, hl], P, F0, G0, F, ρ, p, _, ρ', R, t, e, k⟩
    · cases e
end

/-! ### comprehensions -/
def wipeE (ρ : Env) : List Nat → Env
  | [] => ρ
  | v :: vs => (wipeE ρ vs).set v .no
def compGo (b : DG) (c : DT) (f : DE) (ρ : Env) : List D → Pen → Option (List D × Pen)
  | [], p => some ([], p)
  | x :: xs, p => (b x ρ).bind fun ρ1 => (c ρ1 p).bind fun t => if t.1 then (f ρ1 t.2).bind fun y => (compGo b c f ρ xs y.2).map fun z => (y.1 :: z.1, z.2) else compGo b c f ρ xs t.2
def lComp (vs : List Nat) (b : DG) (c : DT) (f : DE) (it : DL) : DL := fun ρ p => (it ρ p).bind fun x => if x.1.length ≤ sizeLine then compGo b c f (wipeE ρ vs) x.1 x.2 else none
def tYes : DT := fun _ p => some (true, p)
theorem Rel.no1 {K : PySem.W.Frag} {P : Addr} {F0 : Hp} {G0 : Gd} {F H : Hp} {ρ : Env} {σ : L2.St} {p : Pen} (R : Rel K P F0 G0 F H ρ σ p) (i : Nat) : Rel K P F0 G0 F H (ρ.set i .no) (σ.set i none) p := by
  refine ⟨R.step, R.pen, by simp [R.len], fun j c e => ?_, fun j k c e hjk hj hk h1 h2 => ?_⟩
  · by_cases hij : i = j
    · subst hij
      by_cases hl : i < ρ.length
      · rw [List.getElem?_set_self hl] at e
        cases e
        exact ⟨none, by rw [List.getElem?_set_self (by rw [← R.len]; exact hl)], trivial⟩
      · rw [List.getElem?_eq_none (by simpa using hl)] at e
        cases e
    · rw [List.getElem?_set_ne hij] at e
      obtain ⟨ov, e1, h⟩ := R.cell j c e
      exact ⟨ov, by rw [List.getElem?_set_ne hij]; exact e1, h⟩
  · have nj : i ≠ j := fun z => by
      subst z
      by_cases hl : i < ρ.length
      · rw [List.getElem?_set_self hl] at hj
        cases hj
        cases h1
      · rw [List.getElem?_eq_none (by simpa using hl)] at hj
        cases hj
    have nk : i ≠ k := fun z => by
      subst z
      by_cases hl : i < ρ.length
      · rw [List.getElem?_set_self hl] at hk
        cases hk
        cases h2
      · rw [List.getElem?_eq_none (by simpa using hl)] at hk
        cases hk
    rw [List.getElem?_set_ne nj] at hj ⊢
    rw [List.getElem?_set_ne nk] at hk ⊢
    exact R.dis j k c e hjk hj hk h1 h2
theorem Rel.wipe {K : PySem.W.Frag} {P : Addr} {F0 : Hp} {G0 : Gd} {F H : Hp} {ρ : Env} {σ : L2.St} {p : Pen} (R : Rel K P F0 G0 F H ρ σ p) : ∀ vs : List Nat, Rel K P F0 G0 F H (wipeE ρ vs) (L2.wipe σ vs) p
  | [] => R
  | v :: vs => by
    unfold wipeE L2.wipe
    exact (R.wipe vs).no1 v
theorem wipe_get (σ : L2.St) (j : Nat) : ∀ vs : List Nat, (L2.wipe σ vs)[j]? = if j ∈ vs then (if j < σ.length then some none else none) else σ[j]?
  | [] => by simp [L2.wipe]
  | v :: vs => by
    unfold L2.wipe
    by_cases h : v = j
    · subst h
      by_cases hl : v < σ.length
      · rw [List.getElem?_set_self (by rw [L2.wipe_length]; exact hl)]
        simp [hl]
      · rw [List.getElem?_eq_none (by simp [L2.wipe_length]; omega)]
        simp [hl]
    · rw [List.getElem?_set_ne h, wipe_get σ j vs]
      have : (j ∈ v :: vs) ↔ j ∈ vs := by simp [Ne.symm h]
      by_cases hm : j ∈ vs
      · rw [if_pos hm, if_pos (this.mpr hm)]
      · rw [if_neg hm, if_neg (fun z => hm (this.mp z))]
theorem wipe_same {vs is : List Nat} {σ σ' : L2.St} (h : Same1 is σ σ') (hs : ∀ i ∈ is, i ∈ vs) : L2.wipe σ' vs = L2.wipe σ vs := by
  apply List.ext_getElem?
  intro j
  rw [wipe_get, wipe_get, h.1]
  by_cases hm : j ∈ vs
  · rw [if_pos hm, if_pos hm]
  · rw [if_neg hm, if_neg hm, h.2 j fun z => hm (hs j z)]
theorem wipe_idem {vs : List Nat} {σ : L2.St} : L2.wipe (L2.wipe σ vs) vs = L2.wipe σ vs := by
  apply List.ext_getElem?
  intro j
  rw [wipe_get, wipe_get, L2.wipe_length]
  by_cases hm : j ∈ vs
  · simp [hm]
  · simp [hm]
theorem PTs.imp {X : Cx} {es : List Expr} {t t' : TT} (h : PTs X es t) (i : ∀ σ H Q, t' σ H Q → t σ H Q) : PTs X es t' := ⟨fun pins s σ H Q I q => h.run pins s σ H Q I (i σ H Q q)⟩
theorem xt_nil {X : Cx} : PTs X [] (cT X.K tYes) := PTs.imp pts_nil fun σ H Q ⟨P, F0, G0, F, ρ, p, b, p', R, e, k⟩ => by
  simp only [tYes, Option.some.injEq, Prod.mk.injEq] at e
  obtain ⟨rfl, rfl⟩ := e
  exact k F H (Step.refl R.sub) R.pen
theorem xt_one {X : Cx} {c : Expr} {t : DT} (h : PT X c (cT X.K t)) : PTs X [c] (cT X.K t) := pts_one h
/-- the reading of a comprehension -/
theorem comp_c {K : PySem.W.Frag} {vs is : List Nat} {b : DG} {c : DT} {f : DE} {it : DL} {σ : L2.St} {H : Hp} {Q : VK} (hs : ∀ i ∈ is, i ∈ vs) (h : cF K (lComp vs b c f it) σ H Q) : tLc (cI K it) (cG K is b) (cT K c) (cE K f) vs σ H Q := by
  obtain ⟨P, F0, G0, F, ρ, p, ys, p', R, e, k⟩ := h
  simp only [lComp, Option.bind_eq_some_iff] at e
  obtain ⟨⟨ds, p1⟩, e1, e2⟩ := e
  split at e2
  · rename_i hz
    have hz : ds.length ≤ sizeLine := hz
    refine ⟨P, F0, G0, F, ρ, p, ds, p1, R, e1, fun J F1 H1 s1 q1 wd => ?_⟩
    intro D hD
    obtain ⟨n, G, Y, w, hn, hG, hY⟩ := wd
    have DP : D ≠ P := fun z => by
      subst z
      exact q1.thr hD
    have S0 : Step P F1 H1 F1 (upd H1 D (.lst [])) := (Ext.loose s1.fh hD).step P
    refine lc_it w (fun i H' => ∃ F' pi acc yd yr, Step P F1 H1 F' H' ∧ PenAt K P F' H' pi ∧ H' D = some (.lst acc) ∧ F' D = none ∧ Reps K P F' yd acc ∧ acc.length ≤ i ∧ compGo b c f (wipeE ρ vs) (ds.drop i) pi = some (yr, p') ∧ yd ++ yr = ys)
      ⟨F1, p1, [], [], ys, S0, q1.ext (Ext.loose s1.fh hD), upd_same, s1.fh.no hD, Reps.nil, Nat.le_refl _, by simpa using e2, rfl⟩
      (fun i H' hi ⟨F', pi, acc, yd, yr, st, _⟩ => hG F' H' st.ff st.fh) ?_ ?_
    · rintro i x H2 H3 hi ⟨F2, pi, acc, yd, yr, st, qa, hDa, fD, rr, hl, e3, ey⟩ y
      have hid : i < ds.length := by omega
      obtain ⟨F3, E3, rx⟩ := hY i H2 x H3 F2 ds[i] st.ff st.fh y (by simp [hid])
      rw [List.drop_eq_getElem_cons hid] at e3
      simp only [compGo, Option.bind_eq_some_iff] at e3
      obtain ⟨ρ1, e4, ⟨t, p2⟩, e5, e6⟩ := e3
      have st3 := st.trans (E3.step P) qa.thr
      have qa3 := qa.ext E3
      have RW : Rel K P F0 G0 F3 H3 (wipeE ρ vs) (L2.wipe σ vs) pi := (R.go (s1.trans st3 q1.thr) qa3).wipe vs
      refine ⟨P, F0, G0, F3, wipeE ρ vs, pi, ds[i], ρ1, RW, rx, e4, fun σ2 R2 sm => ⟨?_, ?_⟩⟩
      · exact (wipe_same sm hs).trans wipe_idem
      · refine ⟨P, F0, G0, F3, ρ1, pi, t, p2, R2, e5, fun F4 H4 s4 q4 => ?_⟩
        have hD3 : H3 D = some (.lst acc) := E3.hh _ _ hDa
        have fD3 : F3 D = none := by
          cases z : F3 D with
          | none => rfl
          | some o =>
            rcases E3.nw _ _ z with z | z
            · rw [fD] at z
              cases z
            · rw [hDa] at z
              cases z
        have hD4 : H4 D = some (.lst acc) := s4.hh _ _ DP hD3
        have fD4 : F4 D = none := by
          cases z : F4 D with
          | none => rfl
          | some o =>
            rcases s4.nw _ _ z with z | z
            · rw [fD3] at z
              cases z
            · rw [hD3] at z
              cases z
        have st4 := st3.trans s4 qa3.thr
        cases t with
        | false =>
          simp only [Bool.false_eq_true, if_false] at e6 ⊢
          exact ⟨F4, p2, acc, yd, yr, st4, q4, hD4, fD4, (rr.mono E3.ff).mono s4.ff, by omega, e6, ey⟩
        | true =>
          simp only [if_true, Option.bind_eq_some_iff, Option.map_eq_some_iff, Prod.mk.injEq] at e6 ⊢
          obtain ⟨⟨z, p3⟩, e7, ⟨zs, p4⟩, e8, rfl, rfl⟩ := e6
          refine ⟨P, F0, G0, F4, ρ1, p2, z, p3, R2.go s4 q4, e7, fun u F5 H5 s5 q5 r5 => ?_⟩
          have hD5 : H5 D = some (.lst acc) := s5.hh _ _ DP hD4
          have fD5 : F5 D = none := by
            cases z : F5 D with
            | none => rfl
            | some o =>
              rcases s5.nw _ _ z with z | z
              · rw [fD4] at z
                cases z
              · rw [hD4] at z
                cases z
          have st5 := st4.trans s5 q4.thr
          refine ⟨acc, hD5, by omega, F5, p3, acc ++ [u], yd ++ [z], zs, ⟨st5.ff, fun a o na ha => ?_, st5.nw, fun a o ha => ?_⟩, ⟨?_, q5.no⟩, upd_same, fD5, (((rr.mono E3.ff).mono s4.ff).mono s5.ff).append (Reps.cons r5 Reps.nil), by rw [List.length_append, List.length_singleton]; omega, e8, by rw [List.append_assoc]; exact ey⟩
          · have nd : a ≠ D := fun z => by
              rw [z, hD] at ha
              cases ha
            rw [upd_ne nd]
            exact st5.hh _ _ na ha
          · have nd : a ≠ D := fun z => by
              rw [z, fD5] at ha
              cases ha
            rw [upd_ne nd]
            exact s5.fh _ _ ha
          · obtain ⟨L, c1, c2, c3⟩ := q5.at_
            exact ⟨L, by rw [upd_ne (Ne.symm DP)]; exact c1, c2, c3⟩
    · rintro H2 ⟨F2, pi, acc, yd, yr, st, qa, hDa, fD, rr, hl, e3, ey⟩
      have e4 : ds.drop n = [] := by
        rw [hn]
        simp
      rw [e4] at e3
      simp only [compGo, Option.some.injEq, Prod.mk.injEq] at e3
      obtain ⟨rfl, rfl⟩ := e3
      rw [List.append_nil] at ey
      subst ey
      exact k D acc F2 H2 (s1.trans st q1.thr) qa (s1.back q1.thr hD) fD hDa (by omega) rr
  · cases e2
section
variable {X : Cx} {elt tg iter : Expr} {ifs : List Expr} {scope : Scope} {own : List (Str × Nat)} {is : List Nat} {b : DG} {c : DT} {f : DE} {it : DL} {pos : Pos}
def notSet : Expr → Bool
  | .Set _ _ _ => false
  | _ => true
theorem folded_plain {e : Expr} {env : PySem.Env} (h : notSet e = true) : ∀ x, foldedSetIterable e env x = pure x := by
  intro x
  cases e <;> first | rfl | cases h
theorem x_comp (hc : X.calm = true) (hN : X.N.Nodup) (hi : PI X tg iter (cI X.K it)) (ok : BlkOk X.N X.env.scope scope own) (hs : ∀ i ∈ is, i ∈ own.map (·.2)) (hn : notSet iter = true)
    (hg : ∀ (s : Shared) (H : Hp) (C : Addr) (cl : List (Str × Addr)) (fp : List Addr), PG (X.blk s H scope (compEnvC scope cl C X.env) fp) tg (cG X.K is b))
    (ht : ∀ (s : Shared) (H : Hp) (C : Addr) (cl : List (Str × Addr)) (fp : List Addr), PTs (X.blk s H scope (compEnvC scope cl C X.env) fp) ifs (cT X.K c))
    (he : ∀ (s : Shared) (H : Hp) (C : Addr) (cl : List (Str × Addr)) (fp : List Addr), PE (X.blk s H scope (compEnvC scope cl C X.env) fp) elt (cE X.K f)) :
    PE X (.ListComp elt [⟨tg, iter, ifs, 0⟩] scope pos) (cF X.K (lComp (own.map (·.2)) b c f it)) :=
  PE.imp (pe_lc hc hN hi ok hg ht he (folded_plain hn)) fun _ _ _ h => comp_c hs h
end
end Dn
set_option Elab.async false
set_option linter.all false
set_option maxRecDepth 100000
set_option maxHeartbeats 4000000
/-! Dn 6: statements. -/
namespace Dn
open PySem PySem.Spec PyProof.Rows L2

inductive Out where
  | nx (ρ : Env) | rt (d : D) | bk (ρ : Env) | ct (ρ : Env)
abbrev DS := Env → Pen → Option (Out × Pen)
def outK (K : PySem.W.Frag) (P : Addr) (F0 : Hp) (G0 : Gd) (F : Hp) (o : Out) (p' : Pen) (D : Ends) : Prop := match o with
  | .nx ρ' => ∀ σ' F' H', Sub F F' → Rel K P F0 G0 F' H' ρ' σ' p' → D.nx σ' H'
  | .bk ρ' => ∀ σ' F' H', Sub F F' → Rel K P F0 G0 F' H' ρ' σ' p' → D.bk σ' H'
  | .ct ρ' => ∀ σ' F' H', Sub F F' → Rel K P F0 G0 F' H' ρ' σ' p' → D.ct σ' H'
  | .rt d => ∀ v F' H', Step P F0 G0.g F' H' → PenAt K P F' H' p' → Rep K P F' d v → D.rt v H'
def cS (K : PySem.W.Frag) (s : DS) : TS := fun D σ H => ∃ P F0 G0 F ρ p o p', Rel K P F0 G0 F H ρ σ p ∧ s ρ p = some (o, p') ∧ outK K P F0 G0 F o p' D
theorem PSs.imp {X : Cx} {e : List Stmt} {t t' : TS} (h : PSs X e t) (i : ∀ D σ H, t' D σ H → t D σ H) : PSs X e t' := ⟨fun pins s σ H D I q => h.run pins s σ H D I (i D σ H q)⟩
theorem outK.sub {K : PySem.W.Frag} {P : Addr} {F0 : Hp} {G0 : Gd} {F F1 : Hp} {o : Out} {p' : Pen} {D : Ends} (h : outK K P F0 G0 F o p' D) (s : Sub F F1) : outK K P F0 G0 F1 o p' D := by
  cases o with
  | nx ρ' => exact fun σ' F' H' f r => h σ' F' H' (s.trans f) r
  | bk ρ' => exact fun σ' F' H' f r => h σ' F' H' (s.trans f) r
  | ct ρ' => exact fun σ' F' H' f r => h σ' F' H' (s.trans f) r
  | rt d => exact h

/-! ### meanings -/
def sSkip : DS := fun ρ p => some (.nx ρ, p)
def sSeq (s t : DS) : DS := fun ρ p => (s ρ p).bind fun x => match x.1 with
  | .nx ρ' => t ρ' x.2
  | o => some (o, x.2)
def sIf (c : DT) (s t : DS) : DS := fun ρ p => (c ρ p).bind fun x => if x.1 then s ρ x.2 else t ρ x.2
def sEx (f : DE) : DS := fun ρ p => (f ρ p).map fun x => (.nx ρ, x.2)
def sRet (f : DE) : DS := fun ρ p => (f ρ p).map fun x => (.rt x.1, x.2)
def sRetN : DS := fun _ p => some (.rt .non, p)
def sBrk : DS := fun ρ p => some (.bk ρ, p)
def sCnt : DS := fun ρ p => some (.ct ρ, p)
def sNo : DS := fun _ _ => none
def sSet (i : Nat) (f : DE) : DS := fun ρ p => (f ρ p).map fun x => (.nx (ρ.set i (.sh x.1)), x.2)
def sOwn (i : Nat) (f : DL) : DS := fun ρ p => (f ρ p).map fun x => (.nx (ρ.set i (.own x.1)), x.2)
def frz1 (i : Nat) (ρ : Env) : Env := match ρ.at i with
  | .own xs => ρ.set i (.sh (.lst xs))
  | _ => ρ
/-- a list of one's own becomes a value -/
def sFz (i : Nat) (s : DS) : DS := fun ρ p => s (frz1 i ρ) p
def sApp (i : Nat) (f : DE) : DS := fun ρ p => match ρ.at i with
  | .own xs => (f ρ p).bind fun x => if xs.length < sizeLine then some (.nx (ρ.set i (.own (xs ++ [x.1]))), x.2) else none
  | _ => none
def sExt (i : Nat) (f : DL) : DS := fun ρ p => match ρ.at i with
  | .own xs => (f ρ p).bind fun x => if xs.length + x.1.length ≤ sizeLine then some (.nx (ρ.set i (.own (xs ++ x.1))), x.2) else none
  | _ => none
def forGo (b : DG) (s : DS) : List D → DS
  | [], ρ, p => some (.nx ρ, p)
  | x :: xs, ρ, p => (b x ρ).bind fun ρ1 => (s ρ1 p).bind fun o => match o.1 with
    | .nx ρ2 => forGo b s xs ρ2 o.2
    | .ct ρ2 => forGo b s xs ρ2 o.2
    | .bk ρ2 => some (.nx ρ2, o.2)
    | .rt d => some (.rt d, o.2)
def sFor (b : DG) (it : DL) (s : DS) : DS := fun ρ p => (it ρ p).bind fun x => forGo b s x.1 ρ x.2
def whileGo (c : DT) (s : DS) : Nat → DS
  | 0, _, _ => none
  | n + 1, ρ, p => (c ρ p).bind fun t => if t.1 then (s ρ t.2).bind fun o => match o.1 with
    | .nx ρ2 => whileGo c s n ρ2 o.2
    | .ct ρ2 => whileGo c s n ρ2 o.2
    | .bk ρ2 => some (.nx ρ2, o.2)
    | .rt d => some (.rt d, o.2) else some (.nx ρ, t.2)
open Classical in
noncomputable def sWhile (c : DT) (s : DS) : DS := fun ρ p => if h : ∃ n, (whileGo c s n ρ p).isSome then whileGo c s (Classical.choose h) ρ p else none
theorem whileGo_mono {c : DT} {s : DS} : ∀ {n m : Nat} {ρ : Env} {p : Pen} {r : Out × Pen}, whileGo c s n ρ p = some r → n ≤ m → whileGo c s m ρ p = some r
  | 0, _, _, _, _, h, _ => by cases h
  | n + 1, 0, _, _, _, _, h => by omega
  | n + 1, m + 1, ρ, p, r, h, hm => by
    simp only [whileGo, Option.bind_eq_some_iff] at h ⊢
    obtain ⟨t, h1, h2⟩ := h
    refine ⟨t, h1, ?_⟩
    split at h2
    · rename_i ht
      rw [if_pos ht]
      obtain ⟨o, h3, h4⟩ := Option.bind_eq_some_iff.mp h2
      refine Option.bind_eq_some_iff.mpr ⟨o, h3, ?_⟩
      split at h4
      · exact whileGo_mono h4 (by omega)
      · exact whileGo_mono h4 (by omega)
      · exact h4
      · exact h4
    · rename_i ht
      rw [if_neg ht]
      exact h2
theorem sWhile_of {c : DT} {s : DS} {n : Nat} {ρ : Env} {p : Pen} {r : Out × Pen} (h : whileGo c s n ρ p = some r) : sWhile c s ρ p = some r := by
  have e : ∃ n, (whileGo c s n ρ p).isSome := ⟨n, by rw [h]; rfl⟩
  unfold sWhile
  rw [dif_pos e]
  have h2 := Classical.choose_spec e
  obtain ⟨r2, h3⟩ := Option.isSome_iff_exists.mp h2
  rw [h3]
  have a := whileGo_mono h (Nat.le_max_left n (Classical.choose e))
  have b := whileGo_mono h3 (Nat.le_max_right n (Classical.choose e))
  exact b.symm.trans a

/-! ### rules -/
section
variable {X : Cx} {st : Stmt} {sts a b : List Stmt} {s t : DS} {e c : Expr} {f : DE} {l : DL} {tc : DT} {pos pos' p1 p2 : Pos} {i : Nat} {x : Str}
theorem xs_nil : PSs X [] (cS X.K sSkip) := PSs.imp pss_nil fun D σ H ⟨P, F0, G0, F, ρ, p, o, p', R, e, k⟩ => by
  simp only [sSkip, Option.some.injEq, Prod.mk.injEq] at e
  obtain ⟨rfl, rfl⟩ := e
  exact k σ F H Sub.refl R
theorem xs_cons (h : PS X st (cS X.K s)) (k : PSs X sts (cS X.K t)) : PSs X (st :: sts) (cS X.K (sSeq s t)) := PSs.imp (pss_cons h k) fun D σ H ⟨P, F0, G0, F, ρ, p, o, p', R, e, k⟩ => by
  simp only [sSeq, Option.bind_eq_some_iff] at e
  obtain ⟨⟨o1, p1⟩, e1, e2⟩ := e
  refine ⟨P, F0, G0, F, ρ, p, o1, p1, R, e1, ?_⟩
  cases o1 with
  | nx ρ' => exact fun σ' F' H' f r => ⟨P, F0, G0, F', ρ', p1, o, p', r, e2, k.sub f⟩
  | rt d =>
    simp only [Option.some.injEq, Prod.mk.injEq] at e2
    obtain ⟨rfl, rfl⟩ := e2
    exact k
  | bk d =>
    simp only [Option.some.injEq, Prod.mk.injEq] at e2
    obtain ⟨rfl, rfl⟩ := e2
    exact k
  | ct d =>
    simp only [Option.some.injEq, Prod.mk.injEq] at e2
    obtain ⟨rfl, rfl⟩ := e2
    exact k
theorem xs_if (hc : PT X c (cT X.K tc)) (ha : PSs X a (cS X.K s)) (hb : PSs X b (cS X.K t)) : PS X (.If c a b pos) (cS X.K (sIf tc s t)) := PS.imp (ps_if hc ha hb) fun D σ H ⟨P, F0, G0, F, ρ, p, o, p', R, e, k⟩ => by
  simp only [sIf, Option.bind_eq_some_iff] at e
  obtain ⟨⟨x, p1⟩, e1, e2⟩ := e
  refine go1t (R := fun b H1 => if b = true then cS X.K s D σ H1 else cS X.K t D σ H1) R e1 fun F' H' s1 q => ?_
  cases x with
  | true =>
    rw [if_pos rfl]
    exact ⟨P, F0, G0, F', ρ, p1, o, p', R.go s1 q, e2, k.sub s1.ff⟩
  | false =>
    rw [if_neg (by decide)]
    exact ⟨P, F0, G0, F', ρ, p1, o, p', R.go s1 q, e2, k.sub s1.ff⟩
def notComp : Expr → Bool
  | .ListComp .. => false
  | .SetComp .. => false
  | .DictComp .. => false
  | _ => true
theorem swaps_plain {e : Expr} {t : Option Expr} {n : Nat} {env : PySem.Env} (h : notComp e = true) : swapsWith e t n env = pure false := by
  cases e <;> first | rfl | cases h
theorem xs_ex (h : PE X e (cE X.K f)) (n : notComp e = true) : PS X (.Expr e pos) (cS X.K (sEx f)) := PS.imp (ps_expr h (swaps_plain n)) fun D σ H ⟨P, F0, G0, F, ρ, p, o, p', R, e, k⟩ => by
  simp only [sEx, Option.map_eq_some_iff, Prod.mk.injEq] at e
  obtain ⟨⟨d, p1⟩, e1, rfl, rfl⟩ := e
  exact ⟨P, F0, G0, F, ρ, p, d, p1, R, e1, fun v F' H' s q r => k σ F' H' s.ff (R.go s q)⟩
theorem xs_ret (h : PE X e (cE X.K f)) : PS X (.Return (some e) pos) (cS X.K (sRet f)) := PS.imp (ps_ret h) fun D σ H ⟨P, F0, G0, F, ρ, p, o, p', R, e, k⟩ => by
  simp only [sRet, Option.map_eq_some_iff, Prod.mk.injEq] at e
  obtain ⟨⟨d, p1⟩, e1, rfl, rfl⟩ := e
  exact ⟨P, F0, G0, F, ρ, p, d, p1, R, e1, fun v F' H' s q r => k v F' H' (R.step.trans s R.pen.thr) q r⟩
theorem xs_retN : PS X (.Return none pos) (cS X.K sRetN) := PS.imp ps_retN fun D σ H ⟨P, F0, G0, F, ρ, p, o, p', R, e, k⟩ => by
  simp only [sRetN, Option.some.injEq, Prod.mk.injEq] at e
  obtain ⟨rfl, rfl⟩ := e
  exact k .non F H R.step R.pen r_non
theorem xs_pass : PS X (.Pass pos) (cS X.K sSkip) := PS.imp ps_pass fun D σ H ⟨P, F0, G0, F, ρ, p, o, p', R, e, k⟩ => by
  simp only [sSkip, Option.some.injEq, Prod.mk.injEq] at e
  obtain ⟨rfl, rfl⟩ := e
  exact k σ F H Sub.refl R
theorem xs_doc {z : Str} {j : Nat} : PS X (.Expr (.Constant (.str z) j pos) pos') (cS X.K sSkip) := PS.imp ps_doc fun D σ H ⟨P, F0, G0, F, ρ, p, o, p', R, e, k⟩ => by
  simp only [sSkip, Option.some.injEq, Prod.mk.injEq] at e
  obtain ⟨rfl, rfl⟩ := e
  exact k σ F H Sub.refl R
theorem xs_brk : PS X (.Break pos) (cS X.K sBrk) := PS.imp ps_break fun D σ H ⟨P, F0, G0, F, ρ, p, o, p', R, e, k⟩ => by
  simp only [sBrk, Option.some.injEq, Prod.mk.injEq] at e
  obtain ⟨rfl, rfl⟩ := e
  exact k σ F H Sub.refl R
theorem xs_cnt : PS X (.Continue pos) (cS X.K sCnt) := PS.imp ps_continue fun D σ H ⟨P, F0, G0, F, ρ, p, o, p', R, e, k⟩ => by
  simp only [sCnt, Option.some.injEq, Prod.mk.injEq] at e
  obtain ⟨rfl, rfl⟩ := e
  exact k σ F H Sub.refl R
/-- what is not come to (raise) -/
theorem xs_no : PS X st (cS X.K sNo) := PS.imp ps_never fun D σ H ⟨P, F0, G0, F, ρ, p, o, p', R, e, k⟩ => by cases e
theorem xs_set (hN : X.N.Nodup) (hi : X.N[i]? = some x) (hx : Loc X.env.scope x) (h : PE X e (cE X.K f)) (hs : swapsWith e (some (.Name x pos')) pos.line X.env = pure false) (hf : X.fn x = true ∨ X.env.scope.names.lookup x = some .local) : PS X (.Assign [.Name x pos'] e pos) (cS X.K (sSet i f)) :=
  PS.imp (ps_set hN hi hx h hs hf) fun D σ H ⟨P, F0, G0, F, ρ, p, o, p', R, e, k⟩ => by
    simp only [sSet, Option.map_eq_some_iff, Prod.mk.injEq] at e
    obtain ⟨⟨d, p1⟩, e1, rfl, rfl⟩ := e
    exact ⟨P, F0, G0, F, ρ, p, d, p1, R, e1, fun v F' H' s q r => k _ F' H' s.ff ((R.go s q).set r)⟩
/-- a new list of one's own -/
theorem Rel.setOwn {K : PySem.W.Frag} {P : Addr} {F0 : Hp} {G0 : Gd} {F H : Hp} {ρ : Env} {σ : L2.St} {p : Pen} {i : Nat} {xs : List D} {vs : List V} {a : Addr} (R : Rel K P F0 G0 F H ρ σ p) (h1 : H a = some (.lst vs)) (z : vs.length ≤ sizeLine) (r : Reps K P F xs vs) (h2 : F a = none) (h3 : G0 a = none) (h4 : a ≠ P)
    (ha : ∀ (j : Nat), j ≠ i → ∀ (c : Cell), ρ[j]? = some c → c.isOwn = true → σ[j]? ≠ some (some (.ref a))) : Rel K P F0 G0 F H (ρ.set i (.own xs)) (σ.set i (some (.ref a))) p := by
  refine ⟨R.step, R.pen, by simp [R.len], fun j c e => ?_, fun j k c e hjk hj hk q1 q2 => ?_⟩
  · by_cases hij : i = j
    · subst hij
      by_cases hl : i < ρ.length
      · rw [List.getElem?_set_self hl] at e
        cases e
        exact ⟨some (.ref a), by rw [List.getElem?_set_self (by rw [← R.len]; exact hl)], a, vs, rfl, h1, z, r, h2, h3, h4⟩
      · rw [List.getElem?_eq_none (by simpa using hl)] at e
        cases e
    · rw [List.getElem?_set_ne hij] at e
      obtain ⟨ov, e1, h⟩ := R.cell j c e
      exact ⟨ov, by rw [List.getElem?_set_ne hij]; exact e1, h⟩
  · by_cases hij : i = j
    · subst hij
      have nk : i ≠ k := hjk
      by_cases hl : i < ρ.length
      · rw [List.getElem?_set_ne nk] at hk ⊢
        rw [List.getElem?_set_self (by rw [← R.len]; exact hl)]
        exact (ha k (Ne.symm nk) e hk q2).symm
      · rw [List.getElem?_eq_none (by simpa using hl)] at hj
        cases hj
    · by_cases hik : i = k
      · subst hik
        by_cases hl : i < ρ.length
        · rw [List.getElem?_set_ne hij] at hj ⊢
          rw [List.getElem?_set_self (by rw [← R.len]; exact hl)]
          exact ha j (Ne.symm hij) c hj q1
        · rw [List.getElem?_eq_none (by simpa using hl)] at hk
          cases hk
      · rw [List.getElem?_set_ne hij] at hj ⊢
        rw [List.getElem?_set_ne hik] at hk ⊢
        exact R.dis j k c e hjk hj hk q1 q2
theorem Rel.own_at {K : PySem.W.Frag} {P : Addr} {F0 : Hp} {G0 : Gd} {F H : Hp} {ρ : Env} {σ : L2.St} {p : Pen} {j : Nat} {c : Cell} (R : Rel K P F0 G0 F H ρ σ p) (h : ρ[j]? = some c) (o : c.isOwn = true) : ∃ a vs, σ[j]? = some (some (.ref a)) ∧ H a = some (.lst vs) := by
  obtain ⟨ov, e, q⟩ := R.cell j c h
  cases c with
  | own xs =>
    obtain ⟨a, vs, rfl, h1, _⟩ := q
    exact ⟨a, vs, e, h1⟩
  | _ => cases o
theorem Step.g0 {P : Addr} {F0 G0 F H : Hp} (s : Step P F0 G0 F H) {a : Addr} (ha : H a = none) (n : a ≠ P) : G0 a = none := by
  cases e : G0 a with
  | none => rfl
  | some o =>
    rw [s.hh _ _ n e] at ha
    cases ha
theorem own_c {K : PySem.W.Frag} {te : TE} {D : Ends} {σ : L2.St} {H : Hp} (ht : ∀ σ H Q, cF K l σ H Q → te σ H Q) (h : cS K (sOwn i l) D σ H) : tAsg te (gName i) D σ H := by
  obtain ⟨P, F0, G0, F, ρ, p, o, p', R, e, k⟩ := h
  simp only [sOwn, Option.map_eq_some_iff, Prod.mk.injEq] at e
  obtain ⟨⟨xs, p1⟩, e1, rfl, rfl⟩ := e
  refine ht σ H _ ⟨P, F0, G0, F, ρ, p, xs, p1, R, e1, fun a vs F' H' s q h1 h2 h3 z r => ?_⟩
  have aP : a ≠ P := fun z => by
    subst z
    exact R.pen.thr h1
  refine k _ F' H' s.ff ((R.go s q).setOwn h3 z r h2 (R.step.g0 h1 aP) aP fun j _ c hj ho he => ?_)
  obtain ⟨b, us, e2, h4⟩ := R.own_at hj ho
  rw [e2] at he
  cases he
  rw [h1] at h4
  cases h4
theorem xs_own (hN : X.N.Nodup) (hi : X.N[i]? = some x) (hx : Loc X.env.scope x) (h : PE X e (cF X.K l)) (hs : swapsWith e (some (.Name x pos')) pos.line X.env = pure false) (hf : X.fn x = true ∨ X.env.scope.names.lookup x = some .local) : PS X (.Assign [.Name x pos'] e pos) (cS X.K (sOwn i l)) :=
  PS.imp (ps_set hN hi hx h hs hf) fun D σ H q => own_c (fun _ _ _ z => z) q
/-- the own list at slot i becomes frozen -/
theorem Rel.frz {K : PySem.W.Frag} {P : Addr} {F0 : Hp} {G0 : Gd} {F H : Hp} {ρ : Env} {σ : L2.St} {p : Pen} (R : Rel K P F0 G0 F H ρ σ p) (i : Nat) : ∃ F', Sub F F' ∧ Rel K P F0 G0 F' H (frz1 i ρ) σ p := by
  unfold frz1
  split
  · rename_i xs q
    obtain ⟨a, vs, e, h1, z, r, h2, h3, h4⟩ := R.ow q
    have S : Sub F (upd F a (.lst vs)) := fun b u e => by
      rw [upd_ne (ne_of_none e h2)]
      exact e
    have hl : i < ρ.length := by
      unfold Env.at at q
      cases q2 : ρ[i]? with
      | none =>
        rw [q2] at q
        cases q
      | some c => exact (List.getElem?_eq_some_iff.mp q2).1
    refine ⟨_, S, ⟨R.step.ff.trans S, R.step.hh, fun b u e => ?_, fun b u e => ?_⟩, ⟨?_, ?_⟩, by simp [R.len], fun j c e2 => ?_, fun j k c e2 hjk hj hk q1 q2 => ?_⟩
    · by_cases hb : b = a
      · subst hb
        exact .inr h3
      · rw [upd_ne hb] at e
        exact R.step.nw _ _ e
    · by_cases hb : b = a
      · subst hb
        rw [upd_same] at e
        rw [← e]
        exact h1
      · rw [upd_ne hb] at e
        exact R.step.fh _ _ e
    · obtain ⟨L, c1, c2, c3⟩ := R.pen.at_
      exact ⟨L, c1, S _ _ c2, c3⟩
    · rw [upd_ne (Ne.symm h4)]
      exact R.pen.no
    · by_cases hij : i = j
      · subst hij
        rw [List.getElem?_set_self hl] at e2
        cases e2
        exact ⟨_, e, .ref a, rfl, by
          unfold Rep
          exact ⟨a, vs, rfl, upd_same, z, r.mono S⟩⟩
      · rw [List.getElem?_set_ne hij] at e2
        obtain ⟨ov, e3, h⟩ := R.cell j c e2
        refine ⟨ov, e3, ?_⟩
        have ne : ∀ {b : Addr}, c.isOwn = true → ov = some (.ref b) → b ≠ a := fun {b} ho eb z => by
          have q2 : ρ[i]? = some (.own xs) := by
            unfold Env.at at q
            cases q3 : ρ[i]? with
            | none =>
              rw [q3] at q
              cases q
            | some c2 =>
              rw [q3] at q
              have q : c2 = .own xs := q
              rw [q]
          refine R.dis i j _ c hij q2 e2 rfl ho ?_
          rw [e, e3, eb, z]
        cases c with
        | no => trivial
        | sh d =>
          obtain ⟨v, e4, r4⟩ := h
          exact ⟨v, e4, r4.mono S⟩
        | own ys =>
          obtain ⟨b, us, e4, k1, k2, k3, k4, k5, k6⟩ := h
          exact ⟨b, us, e4, k1, k2, k3.mono S, by rw [upd_ne (ne rfl e4)]; exact k4, k5, k6⟩
        | obj cn fs =>
          obtain ⟨b, dx, gs, e4, k1, k2, k3, k4, k5, k6⟩ := h
          have n1 : b ≠ a := fun z => by
            rw [z, h1] at k1
            cases k1
          have n2 : dx ≠ a := fun z => by
            rw [z, h1] at k2
            cases k2
          exact ⟨b, dx, gs, e4, k1, k2, k3.mono S, by rw [upd_ne n1]; exact k4, by rw [upd_ne n2]; exact k5, k6⟩
    · have nj : i ≠ j := fun z => by
        subst z
        rw [List.getElem?_set_self hl] at hj
        cases hj
        cases q1
      have nk : i ≠ k := fun z => by
        subst z
        rw [List.getElem?_set_self hl] at hk
        cases hk
        cases q2
      rw [List.getElem?_set_ne nj] at hj
      rw [List.getElem?_set_ne nk] at hk
      exact R.dis j k c e2 hjk hj hk q1 q2
  · exact ⟨F, Sub.refl, R⟩
theorem xs_fz (i : Nat) (h : PS X st (cS X.K s)) : PS X st (cS X.K (sFz i s)) := PS.imp h fun D σ H ⟨P, F0, G0, F, ρ, p, o, p', R, e, k⟩ => by
  obtain ⟨F', S, R'⟩ := R.frz i
  exact ⟨P, F0, G0, F', _, p, o, p', R', e, k.sub S⟩
/-- an own list is changed -/
theorem Rel.mut {K : PySem.W.Frag} {P : Addr} {F0 : Hp} {G0 : Gd} {F H : Hp} {ρ : Env} {σ : L2.St} {p : Pen} {i : Nat} {xs ys : List D} {us : List V} {a : Addr} (R : Rel K P F0 G0 F H ρ σ p) (q : ρ.at i = .own xs) (e : σ[i]? = some (some (.ref a))) (z : us.length ≤ sizeLine) (r : Reps K P F ys us) :
    Rel K P F0 G0 F (upd H a (.lst us)) (ρ.set i (.own ys)) σ p := by
  obtain ⟨a', vs, e', h1, _, _, h2, h3, h4⟩ := R.ow q
  rw [e] at e'
  cases e'
  have hl : i < ρ.length := by
    unfold Env.at at q
    cases q2 : ρ[i]? with
    | none =>
      rw [q2] at q
      cases q
    | some c => exact (List.getElem?_eq_some_iff.mp q2).1
  have q2 : ρ[i]? = some (.own xs) := by
    unfold Env.at at q
    cases q3 : ρ[i]? with
    | none =>
      rw [q3] at q
      cases q
    | some c2 =>
      rw [q3] at q
      have q : c2 = .own xs := q
      rw [q]
  refine ⟨⟨R.step.ff, fun b u n e => ?_, R.step.nw, fun b u e => ?_⟩, ⟨?_, R.pen.no⟩, by simp [R.len], fun j c e2 => ?_, fun j k c e2 hjk hj hk q1 q2' => ?_⟩
  · have nb : b ≠ a := fun z => by
      rw [z, h3] at e
      cases e
    rw [upd_ne nb]
    exact R.step.hh _ _ n e
  · have nb : b ≠ a := fun z => by
      rw [z, h2] at e
      cases e
    rw [upd_ne nb]
    exact R.step.fh _ _ e
  · obtain ⟨L, c1, c2, c3⟩ := R.pen.at_
    exact ⟨L, by rw [upd_ne (Ne.symm h4)]; exact c1, c2, c3⟩
  · by_cases hij : i = j
    · subst hij
      rw [List.getElem?_set_self hl] at e2
      cases e2
      exact ⟨_, e, a, us, rfl, upd_same, z, r, h2, h3, h4⟩
    · rw [List.getElem?_set_ne hij] at e2
      obtain ⟨ov, e3, h⟩ := R.cell j c e2
      refine ⟨ov, e3, ?_⟩
      cases c with
      | no => trivial
      | sh d => exact h
      | own zs =>
        obtain ⟨b, ws, e4, k1, k2, k3⟩ := h
        have ne : b ≠ a := fun z => by
          refine R.dis i j _ _ hij q2 e2 rfl rfl ?_
          rw [e, e3, e4, z]
        exact ⟨b, ws, e4, by rw [upd_ne ne]; exact k1, k2, k3⟩
      | obj cn fs =>
        obtain ⟨b, dx, gs, e4, k1, k2, k3⟩ := h
        have n1 : b ≠ a := fun z => by
          rw [z, h1] at k1
          cases k1
        have n2 : dx ≠ a := fun z => by
          rw [z, h1] at k2
          cases k2
        exact ⟨b, dx, gs, e4, by rw [upd_ne n1]; exact k1, by rw [upd_ne n2]; exact k2, k3⟩
  · have own1 : ∀ {j : Nat} {c : Cell}, (ρ.set i (.own ys))[j]? = some c → c.isOwn = true → ∃ c', ρ[j]? = some c' ∧ c'.isOwn = true := fun {j c} h o => by
      by_cases hij : i = j
      · subst hij
        exact ⟨_, q2, rfl⟩
      · rw [List.getElem?_set_ne hij] at h
        exact ⟨c, h, o⟩
    obtain ⟨c1, g1, o1⟩ := own1 hj q1
    obtain ⟨c2, g2, o2⟩ := own1 hk q2'
    exact R.dis j k c1 c2 hjk g1 g2 o1 o2
theorem few1 {e : Expr} {env : PySem.Env} {cpos : Pos} (n : notStar e = true) : ((backTo cpos (starEach [e] env)).all (fun x => !x.1) && (backToKw cpos (keywordEach [] env)).all (fun x => x.1.isSome)
      && decide ([e].length + ([] : List Keyword).length + (if ([] : List Keyword).isEmpty then 0 else 1) < 30)) = true := by
  rw [star_plain n]
  rfl
theorem xs_app {o : Expr} (hN : X.N[i]? = some x) (hv : Vis X.env.scope x) (hd : (x == ("__debug__" : Str)) = false) (hcd : (x == ("__classdict__" : Str)) = false) (h : PE X e (cE X.K f)) (n : notStar e = true) (hl : (pos'.endLine == pos.line) = true) :
    PS X (.Expr (.Call (.Attribute (.Name x p1) "append" pos') [e] [] pos) p2) (cS X.K (sApp i f)) :=
  PS.imp (ps_expr (pe_bm PySem.F.plainAttrs_list PySem.F.slot_list_append PySem.F.type_list_append mt_append (pe_var hN hv hd hcd) (pa_cons h pa_nil (star_plain n)) rfl (few1 n) hl (star_plain n) (by rfl)) (swaps_plain rfl)) fun D σ H ⟨P, F0, G0, F, ρ, p, o, p', R, e, k⟩ => by
    unfold sApp at e
    split at e
    · rename_i xs q
      obtain ⟨⟨d, p1⟩, e1, e2⟩ := Option.bind_eq_some_iff.mp e
      simp only at e2
      split at e2
      · rename_i hz
        simp only [Option.some.injEq, Prod.mk.injEq] at e2
        obtain ⟨rfl, rfl⟩ := e2
        obtain ⟨a, vs, ea, h1, z, r, _⟩ := R.ow q
        refine ⟨.ref a, ea, .inl ⟨rfl, vs, SqL.of h1⟩, P, F0, G0, F, ρ, p, d, p1, R, e1, fun v F1 H1 s1 q1 r1 => ?_⟩
        have R1 := R.go s1 q1
        obtain ⟨a', vs', ea', h1', z', r', _, _, hp⟩ := R1.ow q
        rw [ea] at ea'
        cases ea'
        have hlen := r'.length
        refine ⟨a, vs', v, rfl, rfl, h1', by omega, k σ F1 _ s1.ff (R1.mut q ea (by rw [List.length_append, List.length_singleton]; omega) (r'.append (Reps.cons r1 Reps.nil)))⟩
      · cases e2
    · cases e
theorem xs_ext (hN : X.N[i]? = some x) (hv : Vis X.env.scope x) (hd : (x == ("__debug__" : Str)) = false) (hcd : (x == ("__classdict__" : Str)) = false) (h : PE X e (cF X.K l)) (n : notStar e = true) (hl : (pos'.endLine == pos.line) = true) :
    PS X (.Expr (.Call (.Attribute (.Name x p1) "extend" pos') [e] [] pos) p2) (cS X.K (sExt i l)) :=
  PS.imp (ps_expr (pe_bm PySem.F.plainAttrs_list PySem.F.slot_list_extend PySem.F.type_list_extend mt_extend (pe_var hN hv hd hcd) (pa_cons h pa_nil (star_plain n)) rfl (few1 n) hl (star_plain n) (by rfl)) (swaps_plain rfl)) fun D σ H ⟨P, F0, G0, F, ρ, p, o, p', R, e, k⟩ => by
    unfold sExt at e
    split at e
    · rename_i xs q
      obtain ⟨⟨ys, p1⟩, e1, e2⟩ := Option.bind_eq_some_iff.mp e
      simp only at e2
      split at e2
      · rename_i hz
        simp only [Option.some.injEq, Prod.mk.injEq] at e2
        obtain ⟨rfl, rfl⟩ := e2
        obtain ⟨a, vs, ea, h1, z, r, _⟩ := R.ow q
        refine ⟨.ref a, ea, .inl ⟨rfl, vs, SqL.of h1⟩, P, F0, G0, F, ρ, p, ys, p1, R, e1, fun b us F1 H1 s1 q1 hb1 hb2 hb3 zb rb => ?_⟩
        have R1 := R.go s1 q1
        obtain ⟨a', vs', ea', h1', z', r', _, _, hp⟩ := R1.ow q
        rw [ea] at ea'
        cases ea'
        have l1 := r'.length
        have l2 := rb.length
        exact ⟨a, b, vs', us, rfl, rfl, h1', hb3, by omega, k σ F1 _ s1.ff (R1.mut q ea (by rw [List.length_append]; omega) (r'.append rb))⟩
      · cases e2
    · cases e
/-! for, while -/
theorem xs_for {tg iter : Expr} {bd : DG} {is : List Nat} {it : DL} (hp : PassesOwn (model X.prog X.w) X.A X.env X.xe) (hc : X.calm = true) (hi : PI X tg iter (cI X.K it)) (hg : PG X tg (cG X.K is bd)) (hb : PSs X a (cS X.K s)) (hs : notSet iter = true) :
    PS X (.For tg iter a [] pos) (cS X.K (sFor bd it s)) :=
  PS.imp (ps_for hp hc hi hg hb (folded_plain hs)) fun D σ H ⟨P, F0, G0, F, ρ, p, o, p', R, e, k⟩ => by
    simp only [sFor, Option.bind_eq_some_iff] at e
    obtain ⟨⟨ds, p1⟩, e1, e2⟩ := e
    refine ⟨P, F0, G0, F, ρ, p, ds, p1, R, e1, fun J F1 H1 s1 q1 wd => ?_⟩
    obtain ⟨n, G, Y, w, hn, hG, hY⟩ := wd
    refine ⟨fun i m σ H => m = n - i ∧ i ≤ n ∧ ∃ F' ρ' p'', Sub F1 F' ∧ Rel X.K P F0 G0 F' H ρ' σ p'' ∧ forGo bd s (ds.drop i) ρ' p'' = some (o, p'), ⟨n, by simp, Nat.zero_le _, F1, ρ, p1, Sub.refl, R.go s1 q1, by simpa using e2⟩, ?_⟩
    rintro i m σ2 H2 ⟨rfl, hi, F2, ρ2, pp, S2, R2, e3⟩
    have gg := hG F2 H2 S2 R2.sub
    by_cases hlt : i < n
    · refine .inr ⟨w.goes i H2 hlt gg, fun σ' H' => ∃ F' ρ' p'', Sub F1 F' ∧ Rel X.K P F0 G0 F' H' ρ' σ' p'' ∧ forGo bd s (ds.drop (i + 1)) ρ' p'' = some (o, p'), fun σ' H' q => ⟨n - (i + 1), by omega, rfl, by omega, q⟩, fun x H3 y => ?_⟩
      have hid : i < ds.length := by omega
      obtain ⟨F3, E3, rx⟩ := hY i H2 x H3 F2 ds[i] S2 R2.sub (w.yields i H2 x H3 hlt gg y) (by simp [hid])
      rw [List.drop_eq_getElem_cons hid] at e3
      simp only [forGo, Option.bind_eq_some_iff] at e3
      obtain ⟨ρ3, e4, ⟨o1, p2⟩, e5, e6⟩ := e3
      refine ⟨P, F0, G0, F3, ρ2, pp, ds[i], ρ3, R2.go (E3.step P) (R2.pen.ext E3), rx, e4, fun σ4 R4 _ => ?_⟩
      refine ⟨P, F0, G0, F3, ρ3, pp, o1, p2, R4, e5, ?_⟩
      cases o1 with
      | nx ρ5 => exact fun σ' F' H' f r => ⟨F', ρ5, p2, (S2.trans E3.ff).trans f, r, e6⟩
      | ct ρ5 => exact fun σ' F' H' f r => ⟨F', ρ5, p2, (S2.trans E3.ff).trans f, r, e6⟩
      | bk ρ5 =>
        simp only [Option.some.injEq, Prod.mk.injEq] at e6
        obtain ⟨rfl, rfl⟩ := e6
        exact fun σ' F' H' f r => k σ' F' H' (s1.ff.trans ((S2.trans E3.ff).trans f)) r
      | rt d =>
        simp only [Option.some.injEq, Prod.mk.injEq] at e6
        obtain ⟨rfl, rfl⟩ := e6
        exact k
    · have ei : i = n := by omega
      have e4 : ds.drop i = [] := by
        rw [ei, hn]
        simp
      rw [e4] at e3
      simp only [forGo, Option.some.injEq, Prod.mk.injEq] at e3
      obtain ⟨rfl, rfl⟩ := e3
      subst ei
      exact .inl ⟨w.stops H2 gg, k σ2 F2 H2 (s1.ff.trans S2) R2⟩
theorem xs_while (hp : PassesOwn (model X.prog X.w) X.A X.env X.xe) (hc : PT X c (cT X.K tc)) (hb : PSs X a (cS X.K s)) : PS X (.While c a [] pos) (cS X.K (sWhile tc s)) :=
  PS.imp (ps_while hp hc hb) fun D σ H ⟨P, F0, G0, F, ρ, p, o, p', R, e, k⟩ => by
    unfold sWhile at e
    split at e
    · rename_i hx
      generalize hm : Classical.choose hx = m at e
      refine ⟨fun m σ H => ∃ F' ρ' p'', Sub F F' ∧ Rel X.K P F0 G0 F' H ρ' σ p'' ∧ whileGo tc s m ρ' p'' = some (o, p'), ⟨m, F, ρ, p, Sub.refl, R, e⟩, ?_⟩
      rintro m σ2 H2 ⟨F2, ρ2, pp, S2, R2, e3⟩
      cases m with
      | zero => cases e3
      | succ m =>
        simp only [whileGo, Option.bind_eq_some_iff] at e3
        obtain ⟨⟨t, p1⟩, e4, e5⟩ := e3
        refine go1t R2 e4 fun F3 H3 s3 q3 => ?_
        have R3 := R2.go s3 q3
        cases t with
        | true =>
          simp only [if_true, Option.bind_eq_some_iff] at e5 ⊢
          obtain ⟨⟨o1, p2⟩, e6, e7⟩ := e5
          refine ⟨fun σ' H' => ∃ F' ρ' p'', Sub F F' ∧ Rel X.K P F0 G0 F' H' ρ' σ' p'' ∧ whileGo tc s m ρ' p'' = some (o, p'), fun σ' H' q => ⟨m, Nat.lt_succ_self m, q⟩, ?_⟩
          refine ⟨P, F0, G0, F3, ρ2, p1, o1, p2, R3, e6, ?_⟩
          cases o1 with
          | nx ρ5 => exact fun σ' F' H' f r => ⟨F', ρ5, p2, (S2.trans s3.ff).trans f, r, e7⟩
          | ct ρ5 => exact fun σ' F' H' f r => ⟨F', ρ5, p2, (S2.trans s3.ff).trans f, r, e7⟩
          | bk ρ5 =>
            simp only [Option.some.injEq, Prod.mk.injEq] at e7
            obtain ⟨rfl, rfl⟩ := e7
            exact fun σ' F' H' f r => k σ' F' H' ((S2.trans s3.ff).trans f) r
          | rt d =>
            simp only [Option.some.injEq, Prod.mk.injEq] at e7
            obtain ⟨rfl, rfl⟩ := e7
            exact k
        | false =>
          simp only [Bool.false_eq_true, if_false, Option.some.injEq, Prod.mk.injEq] at e5 ⊢
          obtain ⟨rfl, rfl⟩ := e5
          exact k σ2 F3 H3 (S2.trans s3.ff) R3
    · cases e
end
end Dn
set_option Elab.async false
set_option linter.all false
set_option maxRecDepth 100000
set_option maxHeartbeats 4000000
/-! Dn 7: assignments to several targets, to items, to fields of self. -/
namespace Dn
open PySem PySem.Spec PyProof.Rows L2

/-! ### general targets, full values -/
abbrev DGp := D → Env → Pen → Option (Env × Pen)
abbrev DGps := List D → Env → Pen → Option (Env × Pen)
def cP (K : PySem.W.Frag) (b : DGp) : TG := fun v σ H Q => ∃ P F0 G0 F ρ p d ρ' p', Rel K P F0 G0 F H ρ σ p ∧ Rep K P F d v ∧ b d ρ p = some (ρ', p') ∧ ∀ σ' F' H', Sub F F' → Rel K P F0 G0 F' H' ρ' σ' p' → Q σ' H'
def cPs (K : PySem.W.Frag) (b : DGps) : TGs := fun vs σ H Q => ∃ P F0 G0 F ρ p ds ρ' p', Rel K P F0 G0 F H ρ σ p ∧ Reps K P F ds vs ∧ b ds ρ p = some (ρ', p') ∧ ∀ σ' F' H', Sub F F' → Rel K P F0 G0 F' H' ρ' σ' p' → Q σ' H'
def pNm (i : Nat) : DGp := fun d ρ p => some (ρ.set i (.sh d), p)
def pNil : DGps := fun ds ρ p => match ds with
  | [] => some (ρ, p)
  | _ => none
def pCons (b : DGp) (bs : DGps) : DGps := fun ds ρ p => match ds with
  | d :: ds => (b d ρ p).bind fun x => bs ds x.1 x.2
  | [] => none
def pTup (n : Nat) (bs : DGps) : DGp := fun d ρ p => d.parts.bind fun ds => if ds.length = n then bs ds ρ p else none
/-- own[i] = .. -/
def pIx (i : Nat) (f : DE) : DGp := fun d ρ p => match ρ.at i with
  | .own xs => (f ρ p).bind fun x => match x.1 with
    | .int k => (ixN xs.length k).map fun j => (ρ.set i (.own (xs.set j d)), x.2)
    | _ => none
  | _ => none
def sAsg (f : DE) (b : DGp) : DS := fun ρ p => (f ρ p).bind fun x => (b x.1 ρ x.2).map fun y => (.nx y.1, y.2)
section
variable {X : Cx} {e tg : Expr} {es : List Expr} {b : DGp} {bs : DGps} {x : Str} {i : Nat} {pos pos' p1 p2 : Pos} {f : DE} {l : DL}
theorem xp_name (hN : X.N.Nodup) (hi : X.N[i]? = some x) (hx : Loc X.env.scope x) (hf : X.fn x = true ∨ X.env.scope.names.lookup x = some .local) : PG X (.Name x pos) (cP X.K (pNm i)) :=
  PG.imp (pg_name hN hi hx hf) fun v σ H Q ⟨P, F0, G0, F, ρ, p, d, ρ', p', R, r, e, k⟩ => by
    simp only [pNm, Option.some.injEq, Prod.mk.injEq] at e
    obtain ⟨rfl, rfl⟩ := e
    exact k _ F H Sub.refl (R.set r)
theorem xp_nil : PGs X [] (cPs X.K pNil) := PGs.imp pgs_nil fun v σ H Q ⟨P, F0, G0, F, ρ, p, ds, ρ', p', R, r, e, k⟩ => by
  unfold pNil at e
  split at e
  · simp only [Option.some.injEq, Prod.mk.injEq] at e
    obtain ⟨rfl, rfl⟩ := e
    rw [Reps.nil_iff] at r
    exact ⟨r, k _ F H Sub.refl R⟩
  · cases e
theorem xp_cons (h : PG X e (cP X.K b)) (t : PGs X es (cPs X.K bs)) (n : notStar e = true) : PGs X (e :: es) (cPs X.K (pCons b bs)) :=
  PGs.imp (pgs_cons h t (by rw [assign_plain n]; rfl)) fun vs σ H Q ⟨P, F0, G0, F, ρ, p, ds, ρ', p', R, r, e, k⟩ => by
    unfold pCons at e
    split at e
    · obtain ⟨⟨ρ1, p1⟩, e1, e2⟩ := Option.bind_eq_some_iff.mp e
      obtain ⟨v, vs, rfl, r1, r2⟩ := r.inv
      exact ⟨v, vs, rfl, P, F0, G0, F, ρ, p, _, ρ1, p1, R, r1, e1, fun σ1 F1 H1 s1 R1 => ⟨P, F0, G0, F1, ρ1, p1, _, ρ', p', R1, r2.mono s1, e2, fun σ2 F2 H2 s2 R2 => k σ2 F2 H2 (s1.trans s2) R2⟩⟩
    · cases e
theorem xp_tup {kk : Nat} (hc : X.calm = true) (h : PGs X es (cPs X.K bs)) (n : es.all notStar = true) : PG X (.Tuple es kk pos) (cP X.K (pTup es.length bs)) :=
  PG.imp (pg_tup hc h assign_len (assign_nostar n)) fun v σ H Q ⟨P, F0, G0, F, ρ, p, d, ρ', p', R, r, e, k⟩ => by
    unfold pTup at e
    obtain ⟨ds, e1, e⟩ := Option.bind_eq_some_iff.mp e
    split at e
    · rename_i hl
      obtain ⟨a, vs, rfl, q, t⟩ := parts_of r e1
      exact ⟨a, vs, rfl, R.sub.sqT q, by rw [← t.length, hl], P, F0, G0, F, ρ, p, _, ρ', p', R, t, e, k⟩
    · cases e
theorem xp_ix {ie : Expr} (hN : X.N[i]? = some x) (hv : Vis X.env.scope x) (hd : (x == ("__debug__" : Str)) = false) (hcd : (x == ("__classdict__" : Str)) = false) (h : PE X ie (cB X.K f)) (n : notSlice ie = true) : PG X (.Subscript (.Name x p1) ie pos) (cP X.K (pIx i f)) :=
  PG.imp (pg_sub (pe_var hN hv hd hcd) h set_list (fun v => by cases ie <;> first | rfl | cases n)) fun v σ H Q ⟨P, F0, G0, F, ρ, p, d, ρ', p', R, r, e, k⟩ => by
    unfold pIx at e
    split at e
    · rename_i xs q
      obtain ⟨⟨y, p1⟩, e1, e2⟩ := Option.bind_eq_some_iff.mp e
      simp only at e2
      split at e2
      · rename_i kk
        obtain ⟨j, e3, e4⟩ := Option.map_eq_some_iff.mp e2
        simp only [Prod.mk.injEq] at e4
        obtain ⟨rfl, rfl⟩ := e4
        obtain ⟨a, vs, ea, _⟩ := R.ow q
        refine ⟨.ref a, ea, P, F0, G0, F, ρ, p, _, p1, R, e1, fun w F1 H1 s1 q1 r1 => ?_⟩
        cases d_int r1
        have R1 := R.go s1 q1
        obtain ⟨a', vs', ea', h1', z', r', _⟩ := R1.ow q
        rw [ea] at ea'
        cases ea'
        exact ⟨a, vs', kk, j, rfl, rfl, h1', by rw [← r'.length]; exact e3, k σ F1 _ s1.ff (R1.mut q ea (by rw [List.length_set]; exact z') (r'.set (r.mono s1.ff) j))⟩
      · cases e2
    · cases e
theorem xs_asg (h : PE X e (cE X.K f)) (hg : PG X tg (cP X.K b)) (hs : swapsWithSole [tg] e pos.line X.env = pure false) (hw : swappedStores [tg] e X.env = pure none) (n : notStar tg = true) : PS X (.Assign [tg] e pos) (cS X.K (sAsg f b)) :=
  PS.imp (ps_asg h hg hs hw (by rw [assign_plain n]; rfl)) fun D σ H ⟨P, F0, G0, F, ρ, p, o, p', R, e, k⟩ => by
    simp only [sAsg, Option.bind_eq_some_iff, Option.map_eq_some_iff, Prod.mk.injEq] at e
    obtain ⟨⟨d, p1⟩, e1, ⟨ρ2, p2⟩, e2, rfl, rfl⟩ := e
    exact ⟨P, F0, G0, F, ρ, p, d, p1, R, e1, fun v F1 H1 s1 q1 r1 => ⟨P, F0, G0, F1, ρ, p1, d, ρ2, p2, R.go s1 q1, r1, e2, fun σ2 F2 H2 s2 R2 => k σ2 F2 H2 (s1.ff.trans s2) R2⟩⟩
end

/-! ### several names, each a value or a list of one's own -/
abbrev DK := Env → Pen → Option (Cell × Pen)
abbrev DKs := Env → Pen → Option (List Cell × Pen)
def kSh (f : DE) : DK := fun ρ p => (f ρ p).map fun x => (.sh x.1, x.2)
def kOw (f : DL) : DK := fun ρ p => (f ρ p).map fun x => (.own x.1, x.2)
def ksNil : DKs := fun _ p => some ([], p)
def ksCons (f : DK) (l : DKs) : DKs := fun ρ p => (f ρ p).bind fun x => (l ρ x.2).map fun y => (x.1 :: y.1, y.2)
/-- what a cell's value is, behind H: a frozen one, or a list that is new -/
def NewC (K : PySem.W.Frag) (P : Addr) (F H H' : Hp) : Cell → V → Prop
  | .sh d, v => Rep K P F d v
  | .own xs, v => ∃ a vs, v = .ref a ∧ H a = none ∧ F a = none ∧ H' a = some (.lst vs) ∧ vs.length ≤ sizeLine ∧ Reps K P F xs vs
  | _, _ => False
def NewCs (K : PySem.W.Frag) (P : Addr) (F H H' : Hp) : List Cell → List V → Prop
  | [], vs => vs = []
  | c :: cs, vs => ∃ v r, vs = v :: r ∧ NewC K P F H H' c v ∧ NewCs K P F H H' cs r ∧ (c.isOwn = true → ∀ (j : Nat) (e : Cell), cs[j]? = some e → e.isOwn = true → r[j]? ≠ some v)
def cK (K : PySem.W.Frag) (f : DK) : TE := fun σ H Q => ∃ P F0 G0 F ρ p c p', Rel K P F0 G0 F H ρ σ p ∧ f ρ p = some (c, p') ∧
  ∀ v F' H', Step P F H F' H' → PenAt K P F' H' p' → NewC K P F' H H' c v → Q v H'
def cAK (K : PySem.W.Frag) (f : DKs) : TA := fun σ H Q => ∃ P F0 G0 F ρ p cs p', Rel K P F0 G0 F H ρ σ p ∧ f ρ p = some (cs, p') ∧
  ∀ vs F' H', Step P F H F' H' → PenAt K P F' H' p' → NewCs K P F' H H' cs vs → Q vs H'
section
variable {X : Cx} {e : Expr} {es : List Expr} {f : DE} {l : DL} {k : DK} {ks : DKs} {pos p : Pos}
theorem xk_sh (h : PE X e (cE X.K f)) : PE X e (cK X.K (kSh f)) := PE.imp h fun σ H Q ⟨P, F0, G0, F, ρ, p, c, p', R, e, k⟩ => by
  simp only [kSh, Option.map_eq_some_iff, Prod.mk.injEq] at e
  obtain ⟨⟨d, p1⟩, e1, rfl, rfl⟩ := e
  exact ⟨P, F0, G0, F, ρ, p, d, p1, R, e1, fun v F' H' s q r => k v F' H' s q r⟩
theorem xk_ow (h : PE X e (cF X.K l)) : PE X e (cK X.K (kOw l)) := PE.imp h fun σ H Q ⟨P, F0, G0, F, ρ, p, c, p', R, e, k⟩ => by
  simp only [kOw, Option.map_eq_some_iff, Prod.mk.injEq] at e
  obtain ⟨⟨d, p1⟩, e1, rfl, rfl⟩ := e
  exact ⟨P, F0, G0, F, ρ, p, d, p1, R, e1, fun a vs F' H' s q h1 h2 h3 z r => k _ F' H' s q ⟨a, vs, rfl, h1, h2, h3, z, r⟩⟩
theorem NewC.go {K : PySem.W.Frag} {P : Addr} {F H H1 F' H' : Hp} {c : Cell} {v : V} (h : NewC K P F H H1 c v) (s : Step P F H1 F' H') (hp : ∃ kvs, H1 P = some (.dK kvs)) : NewC K P F' H H' c v := by
  cases c with
  | sh d => exact Rep.mono s.ff h
  | own xs =>
    obtain ⟨a, vs, rfl, h1, h2, h3, z, r⟩ := h
    have aP : a ≠ P := fun z => by
      subst z
      obtain ⟨kvs, e⟩ := hp
      rw [e] at h3
      cases h3
    refine ⟨a, vs, rfl, h1, ?_, s.hh _ _ aP h3, z, r.mono s.ff⟩
    cases e : F' a with
    | none => rfl
    | some o =>
      rcases s.nw _ _ e with e | e
      · rw [h2] at e
        cases e
      · rw [h3] at e
        cases e
  | _ => exact h.elim
theorem NewC.back {K : PySem.W.Frag} {P : Addr} {F F1 H H1 H' : Hp} {c : Cell} {v : V} (h : NewC K P F H1 H' c v) (s : Step P F1 H F H1) (n : H1 P ≠ none) : NewC K P F H H' c v := by
  cases c with
  | sh d => exact h
  | own xs =>
    obtain ⟨a, vs, rfl, h1, h2⟩ := h
    exact ⟨a, vs, rfl, s.back n h1, h2⟩
  | _ => exact h.elim
theorem NewCs.back {K : PySem.W.Frag} {P : Addr} {F F0 F1 H H1 H' : Hp} (s : Step P F0 H F1 H1) (n : H1 P ≠ none) : ∀ {cs : List Cell} {vs : List V}, NewCs K P F H1 H' cs vs → NewCs K P F H H' cs vs
  | [], _, h => h
  | c :: cs, vs, h => by
    obtain ⟨v, r, rfl, h1, h2, h3⟩ := h
    refine ⟨v, r, rfl, ?_, NewCs.back s n h2, h3⟩
    cases c with
    | sh d => exact h1
    | own xs =>
      obtain ⟨a, vs, rfl, g1, g2⟩ := h1
      exact ⟨a, vs, rfl, s.back n g1, g2⟩
    | _ => exact h1.elim
theorem NewCs.at {K : PySem.W.Frag} {P : Addr} {F H H' : Hp} : ∀ {cs : List Cell} {vs : List V} {j : Nat} {c : Cell}, NewCs K P F H H' cs vs → cs[j]? = some c → ∃ v, vs[j]? = some v ∧ NewC K P F H H' c v
  | [], _, _, _, _, e => by simp at e
  | c :: cs, vs, 0, d, h, e => by
    obtain ⟨v, r, rfl, h1, _⟩ := h
    simp at e
    subst e
    exact ⟨v, rfl, h1⟩
  | c :: cs, vs, j + 1, d, h, e => by
    obtain ⟨v, r, rfl, _, h2, _⟩ := h
    obtain ⟨u, g1, g2⟩ := NewCs.at (j := j) h2 (by simpa using e)
    exact ⟨u, by simpa using g1, g2⟩
theorem xak_nil : PA X [] (cAK X.K ksNil) := PA.imp pa_nil fun σ H Q ⟨P, F0, G0, F, ρ, p, cs, p', R, e, k⟩ => by
  simp only [ksNil, Option.some.injEq, Prod.mk.injEq] at e
  obtain ⟨rfl, rfl⟩ := e
  exact k [] F H (Step.refl R.sub) R.pen rfl
theorem xak_cons (h : PE X e (cK X.K k)) (t : PA X es (cAK X.K ks)) (n : notStar e = true) : PA X (e :: es) (cAK X.K (ksCons k ks)) := PA.imp (pa_cons h t (star_plain n)) fun σ H Q ⟨P, F0, G0, F, ρ, p, cs, p', R, e, k⟩ => by
  simp only [ksCons, Option.bind_eq_some_iff, Option.map_eq_some_iff, Prod.mk.injEq] at e
  obtain ⟨⟨c, p1⟩, e1, ⟨cs, p2⟩, e2, rfl, rfl⟩ := e
  refine ⟨P, F0, G0, F, ρ, p, c, p1, R, e1, fun v F1 H1 s1 q1 r1 => ⟨P, F0, G0, F1, ρ, p1, cs, p2, R.go s1 q1, e2, fun vs F2 H2 s2 q2 r2 => k _ F2 H2 (s1.trans s2 q1.thr) q2 ⟨v, vs, rfl, r1.go s2 q1.dk, NewCs.back s1 q1.thr r2, fun ho j e hj hoe hv => ?_⟩⟩⟩
  obtain ⟨u, g1, g2⟩ := NewCs.at r2 hj
  rw [hv] at g1
  cases g1
  cases c with
  | own xs =>
    obtain ⟨a, ws, rfl, _, _, h3, _⟩ := r1
    cases e with
    | own ys =>
      obtain ⟨b, us, eb, h4, _⟩ := g2
      cases eb
      rw [h3] at h4
      cases h4
    | _ => cases hoe
  | _ => cases ho
end
/-- a cell is stored -/
theorem Rel.setC {K : PySem.W.Frag} {P : Addr} {F0 : Hp} {G0 : Gd} {F H0 H : Hp} {ρ : Env} {σ : L2.St} {p : Pen} {i : Nat} {c : Cell} {v : V} (R : Rel K P F0 G0 F H ρ σ p) (n : NewC K P F H0 H c v) (g : ∀ a, H0 a = none → G0 a = none ∧ a ≠ P)
    (ha : c.isOwn = true → ∀ (j : Nat), j ≠ i → ∀ (c : Cell), ρ[j]? = some c → c.isOwn = true → σ[j]? ≠ some (some v)) : Rel K P F0 G0 F H (ρ.set i c) (σ.set i (some v)) p := by
  cases c with
  | sh d => exact R.set n
  | own xs =>
    obtain ⟨a, vs, rfl, h1, h2, h3, z, r⟩ := n
    exact R.setOwn h3 z r h2 (g a h1).1 (g a h1).2 (ha rfl)
  | _ => exact n.elim
def setAll : List Nat → List Cell → Env → Option Env
  | [], [], ρ => some ρ
  | i :: is, c :: cs, ρ => setAll is cs (ρ.set i c)
  | _, _, _ => none
def sPar (is : List Nat) (l : DKs) : DS := fun ρ p => (l ρ p).bind fun x => (setAll is x.1 ρ).map fun ρ' => (.nx ρ', x.2)
/-- the slots' values stored one after another -/
def stAll : List Nat → List V → L2.St → L2.St
  | i :: is, v :: vs, σ => stAll is vs (σ.set i (some v))
  | _, _, σ => σ
theorem Rel.setAll {K : PySem.W.Frag} {P : Addr} {F0 : Hp} {G0 : Gd} {F H0 H : Hp} (g : ∀ a, H0 a = none → G0 a = none ∧ a ≠ P) : ∀ {is : List Nat} {cs : List Cell} {vs : List V} {ρ ρ' : Env} {σ : L2.St} {p : Pen}, is.Nodup → Rel K P F0 G0 F H ρ σ p → NewCs K P F H0 H cs vs → Dn.setAll is cs ρ = some ρ' →
    (∀ (j : Nat) (c : Cell), ρ[j]? = some c → c.isOwn = true → ∀ (m : Nat) (e : Cell), cs[m]? = some e → e.isOwn = true → ∀ v, vs[m]? = some v → σ[j]? ≠ some (some v)) → Rel K P F0 G0 F H ρ' (stAll is vs σ) p
  | [], [], vs, ρ, ρ', σ, p, _, R, h, e, _ => by
    have h : vs = [] := h
    subst h
    cases e
    exact R
  | i :: is, c :: cs, vs, ρ, ρ', σ, p, nd, R, h, e, hd => by
    obtain ⟨v, r, rfl, h1, h2, h3⟩ := h
    have e : Dn.setAll is cs (ρ.set i c) = some ρ' := e
    rw [List.nodup_cons] at nd
    have R1 : Rel K P F0 G0 F H (ρ.set i c) (σ.set i (some v)) p := R.setC h1 g fun ho j hj c2 hc ho2 => hd j c2 hc ho2 0 c (by simp) ho v (by simp)
    have hd2 : ∀ (j : Nat) (c2 : Cell), (ρ.set i c)[j]? = some c2 → c2.isOwn = true → ∀ (m : Nat) (e : Cell), cs[m]? = some e → e.isOwn = true → ∀ u, r[m]? = some u → (σ.set i (some v))[j]? ≠ some (some u) := by
      intro j c2 hj ho m e2 hm hoe u hu hv
      by_cases hij : i = j
      · subst hij
        by_cases hl : i < ρ.length
        · rw [List.getElem?_set_self hl] at hj
          cases hj
          rw [List.getElem?_set_self (by rw [← R.len]; exact hl)] at hv
          cases hv
          exact h3 ho m e2 hm hoe hu
        · rw [List.getElem?_eq_none (by simpa using hl)] at hj
          cases hj
      · rw [List.getElem?_set_ne hij] at hj hv
        exact hd j c2 hj ho (m + 1) e2 (by simpa using hm) hoe u (by simpa using hu) hv
    have := Rel.setAll (is := is) (cs := cs) (vs := r) (ρ := ρ.set i c) (σ := σ.set i (some v)) g nd.2 R1 h2 e hd2
    exact this
  | [], _ :: _, _, _, _, _, _, _, _, _, e, _ => by cases e
  | _ :: _, [], _, _, _, _, _, _, _, _, e, _ => by cases e
theorem par_c {K : PySem.W.Frag} {is : List Nat} {l : DKs} {D : Ends} {σ : L2.St} {H : Hp} (nd : is.Nodup) (h : cS K (sPar is l) D σ H) : cAK K l σ H fun vs H1 => vs.length = is.length ∧ D.nx (stAll is vs σ) H1 := by
  obtain ⟨P, F0, G0, F, ρ, p, o, p', R, e, k⟩ := h
  simp only [sPar, Option.bind_eq_some_iff, Option.map_eq_some_iff, Prod.mk.injEq] at e
  obtain ⟨⟨cs, p1⟩, e1, ρ', e2, rfl, rfl⟩ := e
  refine ⟨P, F0, G0, F, ρ, p, cs, p1, R, e1, fun vs F1 H1 s1 q1 r1 => ⟨?_, k _ F1 H1 s1.ff ((R.go s1 q1).setAll (fun a ha => ?_) nd r1 e2 fun j c hj ho m e hm hoe v hv hs => ?_)⟩⟩
  · clear k R e1
    clear s1 q1
    revert is ρ
    induction cs generalizing vs with
    | nil =>
      intro is nd ρ e2
      have r1 : vs = [] := r1
      subst r1
      cases is with
      | nil => rfl
      | cons => cases e2
    | cons c cs ih =>
      intro is nd ρ e2
      obtain ⟨v, r, rfl, h1, h2, _⟩ := r1
      cases is with
      | nil => cases e2
      | cons i is =>
        rw [List.nodup_cons] at nd
        have := ih r h2 nd.2 (ρ.set i c) e2
        simp [this]
  · have aP : a ≠ P := fun z => by
      subst z
      exact R.pen.thr ha
    exact ⟨R.step.g0 ha aP, aP⟩
  · obtain ⟨a, ws, e3, h4⟩ := R.own_at hj ho
    obtain ⟨u, g1, g2⟩ := NewCs.at r1 hm
    rw [hv] at g1
    cases g1
    rw [e3] at hs
    cases hs
    cases e with
    | own ys =>
      obtain ⟨b, us, eb, h5, _⟩ := g2
      cases eb
      rw [h5] at h4
      cases h4
    | _ => cases hoe
section
variable {X : Cx} {e a b c : Expr} {es : List Expr} {l : DKs} {pos px py pz pt pt2 : Pos} {x y z : Str} {i j m : Nat} {kt k2 : Nat}
theorem xs_par2 (hc : X.calm = true) (hN : X.N.Nodup) (hi : X.N[i]? = some x) (hj : X.N[j]? = some y) (hij : i ≠ j) (hx : X.env.scope.names.lookup x = some .local) (hy : X.env.scope.names.lookup y = some .local) (ha : PA X [a, b] (cAK X.K l))
    (hw : swappedStores [.Tuple [.Name x px, .Name y py] kt pt] (.Tuple [a, b] k2 pt2) X.env = pure (some [x, y])) : PS X (.Assign [.Tuple [.Name x px, .Name y py] kt pt] (.Tuple [a, b] k2 pt2) pos) (cS X.K (sPar [i, j] l)) :=
  PS.imp (ps_par hc hN hi hj hij hx hy ha hw (by rfl)) fun D σ H h => by
    obtain ⟨P, F0, G0, F, ρ, p, cs, p', R, e, k⟩ := par_c (by simp [hij]) h
    refine ⟨P, F0, G0, F, ρ, p, cs, p', R, e, fun vs F1 H1 s1 q1 r1 => ?_⟩
    obtain ⟨h1, h2⟩ := k vs F1 H1 s1 q1 r1
    match vs, h1 with
    | [v, w], _ => exact ⟨v, w, rfl, h2⟩
theorem xs_par3 (hc : X.calm = true) (hN : X.N.Nodup) (hi : X.N[i]? = some x) (hj : X.N[j]? = some y) (hm : X.N[m]? = some z) (hij : i ≠ j) (him : i ≠ m) (hjm : j ≠ m) (hx : X.env.scope.names.lookup x = some .local) (hy : X.env.scope.names.lookup y = some .local) (hz : X.env.scope.names.lookup z = some .local)
    (ha : PA X [a, b, c] (cAK X.K l)) (hw : swappedStores [.Tuple [.Name x px, .Name y py, .Name z pz] kt pt] (.Tuple [a, b, c] k2 pt2) X.env = pure (some [x, y, z])) :
    PS X (.Assign [.Tuple [.Name x px, .Name y py, .Name z pz] kt pt] (.Tuple [a, b, c] k2 pt2) pos) (cS X.K (sPar [i, j, m] l)) :=
  PS.imp (ps_par3 hc hN hi hj hm hij him hjm hx hy hz ha hw (by rfl)) fun D σ H h => by
    obtain ⟨P, F0, G0, F, ρ, p, cs, p', R, e, k⟩ := par_c (by simp [hij, him, hjm]) h
    refine ⟨P, F0, G0, F, ρ, p, cs, p', R, e, fun vs F1 H1 s1 q1 r1 => ?_⟩
    obtain ⟨h1, h2⟩ := k vs F1 H1 s1 q1 r1
    match vs, h1 with
    | [v, w, u], _ => exact ⟨v, w, u, rfl, h2⟩
/-- names as targets of a tuple -/
def gNames : List Nat → TGs
  | [] => gNil
  | i :: is => gCons (gName i) (gNames is)
theorem gNames_ok : ∀ {is : List Nat} {vs : List V} {σ : L2.St} {H : Hp} {Q : L2.St → Hp → Prop}, vs.length = is.length → Q (stAll is vs σ) H → gNames is vs σ H Q
  | [], [], _, _, _, _, q => ⟨rfl, q⟩
  | i :: is, v :: vs, σ, H, Q, h, q => ⟨v, vs, rfl, gNames_ok (by simpa using h) q⟩
  | [], _ :: _, _, _, _, h, _ => by simp at h
  | _ :: _, [], _, _, _, h, _ => by simp at h
theorem xs_parT {ts : List Expr} {is : List Nat} (hc : X.calm = true) (nd : is.Nodup) (hg : PGs X ts (gNames is)) (ns : ts.all notStar = true) (hl : ts.length = is.length) (hz : is.length ≤ 100) (ha : PA X es (cAK X.K l))
    (hw : swappedStores [.Tuple ts kt pt] (.Tuple es k2 pt2) X.env = pure none) : PS X (.Assign [.Tuple ts kt pt] (.Tuple es k2 pt2) pos) (cS X.K (sPar is l)) :=
  PS.imp (ps_asg (pe_tup ha) (pg_tup hc hg assign_len (assign_nostar ns)) (by rfl) hw (by rfl)) fun D σ H h => by
    obtain ⟨P, F0, G0, F, ρ, p, o, p', R, e, k⟩ := h
    have k0 := k
    simp only [sPar, Option.bind_eq_some_iff, Option.map_eq_some_iff, Prod.mk.injEq] at e
    obtain ⟨⟨cs, p1⟩, e1, ρ', e2, rfl, rfl⟩ := e
    have e3 : sPar is l ρ p = some (.nx ρ', p1) := by
      simp only [sPar, Option.bind_eq_some_iff, Option.map_eq_some_iff, Prod.mk.injEq]
      exact ⟨(cs, p1), e1, ρ', e2, rfl, rfl⟩
    refine ⟨P, F0, G0, F, ρ, p, cs, p1, R, e1, fun vs F1 H1 s1 q1 r1 => ?_⟩
    have key : vs.length = is.length ∧ ∀ H2, Rel X.K P F0 G0 F1 H2 ρ' (stAll is vs σ) p1 → D.nx (stAll is vs σ) H2 := ⟨by
      clear k k0 e3 R e1
      clear s1 q1 hl hg hz
      revert is ρ
      induction cs generalizing vs with
      | nil =>
        intro is nd ρ e2
        have r1 : vs = [] := r1
        subst r1
        cases is with
        | nil => rfl
        | cons => cases e2
      | cons c cs ih =>
        intro is nd ρ e2
        obtain ⟨v, r, rfl, h1, h2, _⟩ := r1
        cases is with
        | nil => cases e2
        | cons i is =>
          rw [List.nodup_cons] at nd
          have := ih r h2 nd.2 (ρ.set i c) e2
          simp [this], fun H2 R2 => k _ F1 H2 s1.ff R2⟩
    refine ⟨Nat.le_trans (show vs.length ≤ 100 by omega) (by rw [sizeLine_eq]; decide), fun T hT => ⟨T, vs, rfl, SqT.of upd_same, by omega, gNames_ok key.1 (key.2 _ ?_)⟩⟩
    have E : Ext F1 H1 F1 (upd H1 T (.tup vs)) := Ext.loose s1.fh hT
    have R1 : Rel X.K P F0 G0 F1 H1 ρ' (stAll is vs σ) p1 := (R.go s1 q1).setAll (fun a ha => by
      have aP : a ≠ P := fun z => by
        subst z
        exact R.pen.thr ha
      exact ⟨R.step.g0 ha aP, aP⟩) nd r1 e2 fun j c hj ho m e hm hoe v hv hs => by
        obtain ⟨a, ws, e3, h4⟩ := R.own_at hj ho
        obtain ⟨u, g1, g2⟩ := NewCs.at r1 hm
        rw [hv] at g1
        cases g1
        rw [e3] at hs
        cases hs
        cases e with
        | own ys =>
          obtain ⟨b, us, eb, h5, _⟩ := g2
          cases eb
          rw [h5] at h4
          cases h4
        | _ => cases hoe
    exact R1.go (E.step P) (q1.ext E)
end

/-! ### self.f = e in an __init__ -/
def putS (f : String) (d : D) : List (String × D) → List (String × D)
  | [] => [(f, d)]
  | (g, e) :: r => if g = f then (g, d) :: r else (g, e) :: putS f d r
def Cell.isObj : Cell → Bool
  | .obj _ _ => true
  | _ => false
def sFld (c0 f : String) (g : DE) : DS := fun ρ p => (g ρ p).bind fun x => match ρ.at 0 with
  | .obj c fs => if c = c0 ∧ fs.length < 1000 ∧ ρ.tail.all (fun c => !c.isObj) = true then some (.nx (ρ.set 0 (.obj c (putS f x.1 fs))), x.2) else none
  | _ => none
theorem RepF.put {K : PySem.W.Frag} {P : Addr} {F : Hp} {f : String} {d : D} {v : V} (r : Rep K P F d v) : ∀ {fs : List (String × D)} {gs : List (Str × V)}, RepF K P F fs gs → RepF K P F (putS f d fs) (putF (f : Str) v gs)
  | [], gs, h => by
    unfold RepF at h
    subst h
    unfold putS putF RepF
    exact ⟨v, [], rfl, r, by unfold RepF; rfl⟩
  | (n, x) :: fs, gs, h => by
    unfold RepF at h
    obtain ⟨u, t, rfl, q, tt⟩ := h
    unfold putS putF
    by_cases e : n = f
    · rw [if_pos e, if_pos (by rw [e])]
      unfold RepF
      exact ⟨v, t, rfl, r, tt⟩
    · rw [if_neg e, if_neg fun z => e (str_inj z)]
      unfold RepF
      exact ⟨u, _, rfl, q, RepF.put r tt⟩
theorem RepF.len {K : PySem.W.Frag} {P : Addr} {F : Hp} : ∀ {fs : List (String × D)} {gs : List (Str × V)}, RepF K P F fs gs → fs.length = gs.length
  | [], gs, h => by
    unfold RepF at h
    subst h
    rfl
  | (n, x) :: fs, gs, h => by
    unfold RepF at h
    obtain ⟨u, t, rfl, q, tt⟩ := h
    simp [RepF.len tt]
section
variable {X : Cx} {e : Expr} {f : String} {g : DE} {x fs : Str} {pos p1 p2 : Pos} {c : String}
theorem xs_fld (hN : X.N[0]? = some x) (hv : Vis X.env.scope x) (hd : (x == ("__debug__" : Str)) = false) (hcd : (x == ("__classdict__" : Str)) = false) (hf : fs = (f : Str)) (h : PE X e (cE X.K g)) (hs : swapsWith e (some (.Attribute (.Name x p1) fs p2)) pos.line X.env = pure false)
    (I : Cls X.K (He.ga X.K c) ∧ NoAttr X.K (He.ga X.K c) f) : PS X (.Assign [.Attribute (.Name x p1) fs p2] e pos) (cS X.K (sFld c f g)) := by
  subst hf
  exact PS.imp (ps_fld (pe_var hN hv hd hcd) h hs) fun D σ H ⟨P, F0, G0, F, ρ, p, o, p', R, e, k⟩ => by
    simp only [sFld, Option.bind_eq_some_iff] at e
    obtain ⟨⟨d, p1⟩, e1, e2⟩ := e
    split at e2
    · rename_i c fs q
      split at e2
      · rename_i hz0
        obtain ⟨hz1, hz⟩ := hz0
        subst hz1
        simp only [Option.some.injEq, Prod.mk.injEq] at e2
        obtain ⟨rfl, rfl⟩ := e2
        refine ⟨P, F0, G0, F, ρ, p, d, p1, R, e1, fun v F1 H1 s1 q1 r1 => ?_⟩
        have R1 := R.go s1 q1
        have q2 : ρ[0]? = some (.obj c fs) := by
          unfold Env.at at q
          cases q3 : ρ[0]? with
          | none =>
            rw [q3] at q
            cases q
          | some c2 =>
            rw [q3] at q
            have q : c2 = .obj c fs := q
            rw [q]
        have hl : 0 < ρ.length := (List.getElem?_eq_some_iff.mp q2).1
        obtain ⟨ov, ea, a, dx, gs, rfl, h1, h2, rf, n1, n2, g1, g2, np1, np2, ne, me⟩ := R1.cell 0 _ q2
        obtain ⟨ic, na⟩ := I
        refine ⟨.ref a, ea, a, _, dx, gs, rfl, h1, ic, na, by rw [← rf.len]; exact hz.1, k σ F1 _ s1.ff ⟨⟨R1.step.ff, fun b u n e => ?_, R1.step.nw, fun b u e => ?_⟩, ⟨?_, R1.pen.no⟩, by simp [R.len], fun j c2 e3 => ?_, fun j m c2 e3 hjm hj hm o1 o2 => ?_⟩⟩
        · have nb : b ≠ a := fun z => by
            rw [z, g1] at e
            cases e
          rw [upd_ne nb]
          exact R1.step.hh _ _ n e
        · have nb : b ≠ a := fun z => by
            rw [z, n1] at e
            cases e
          rw [upd_ne nb]
          exact R1.step.fh _ _ e
        · obtain ⟨L, c1, c2, c3⟩ := R1.pen.at_
          exact ⟨L, by rw [upd_ne (Ne.symm np1)]; exact c1, c2, c3⟩
        · by_cases hj : 0 = j
          · subst hj
            rw [List.getElem?_set_self hl] at e3
            cases e3
            exact ⟨_, ea, a, dx, _, rfl, upd_same, by rw [upd_ne ne]; exact h2, rf.put r1, n1, n2, g1, g2, np1, np2, ne, me⟩
          · rw [List.getElem?_set_ne hj] at e3
            obtain ⟨ov, e4, h⟩ := R1.cell j c2 e3
            refine ⟨ov, e4, ?_⟩
            cases c2 with
            | no => trivial
            | sh d => exact h
            | own zs =>
              obtain ⟨b, ws, e4, k1, k2, k3⟩ := h
              have nb : b ≠ a := fun z => by
                rw [z, h1] at k1
                cases k1
              exact ⟨b, ws, e4, by rw [upd_ne nb]; exact k1, k2, k3⟩
            | obj cn fs2 =>
              cases j with
              | zero => exact absurd rfl hj
              | succ j =>
                have hm : Cell.obj cn fs2 ∈ ρ.tail := by
                  rw [List.mem_iff_getElem?]
                  exact ⟨j, by simpa using e3⟩
                have := List.all_eq_true.mp hz.2 _ hm
                cases this
        · have n1 : 0 ≠ j := fun z => by
            subst z
            rw [List.getElem?_set_self hl] at hj
            cases hj
            cases o1
          have n2 : 0 ≠ m := fun z => by
            subst z
            rw [List.getElem?_set_self hl] at hm
            cases hm
            cases o2
          rw [List.getElem?_set_ne n1] at hj
          rw [List.getElem?_set_ne n2] at hm
          exact R1.dis j m c2 e3 hjm hj hm o1 o2
      · cases e2
    · cases e2
end
end Dn
set_option Elab.async false
set_option linter.all false
set_option maxRecDepth 100000
set_option maxHeartbeats 4000000
/-! Dn 8: defs by their bodies; the context of a translation. -/
namespace Dn
open PySem PySem.Spec PyProof.Rows L2

def envOf (m : Nat) (ds : List D) : Env := ds.map Cell.sh ++ List.replicate (m - ds.length) .no
def fnD (n m : Nat) (s : DS) : Fn := fun ds p => if ds.length = n then (s (envOf m ds) p).bind fun x => match x.1 with
  | .rt d => some (d, x.2)
  | .nx _ => some (.non, x.2)
  | _ => none else none
def iniEnv (c : String) (m : Nat) (ds : List D) : Env := .obj c [] :: envOf (m - 1) ds
def iniD (c : String) (n m : Nat) (s : DS) : Fi := fun ds p => if ds.length = n then (s (iniEnv c m ds) p).bind fun x => match x.1 with
  | .nx ρ => (match ρ.at 0 with
    | .obj c' fs => if c' = c then some (fs, x.2) else none
    | _ => none)
  | _ => none else none
/-- what a translation knows: defs (name, parameters, meaning), classes that are made (name, fields, parameters, meaning of __init__), classes of isinstance, constants -/
structure Tab where
  fns : List (String × Nat × Fn)
  mks : List (String × List String × Nat × Fi)
  cls : List String
  cons : List (String × D)
  /-- the class whose __init__ it is, its fields -/
  self : Option (String × List String) := none
  /-- own comparisons: class, is it !=, meaning -/
  eqs : List (String × Bool × Fn) := []
def eqName : Bool → Str
  | true => "__ne__"
  | false => "__eq__"
/-- a class's own method: its meaning, its promise at level k -/
structure EqM (X : Cx) (k : Nat) (c : String) (m : Str) (f : Fn) : Prop where
  ok : ∃ g fd ps, FnOk X.prog X.w X.K X.mg X.base CX0 k g fd ps (spOf X.K 2 f) ∧ Meth X.K (He.ga X.K c) m g ∧ Binds X.K fd ps []
def freeNames : List String := ["len", "list", "tuple", "int", "str", "abs", "all", "any", "sum", "sorted", "min", "max", "range", "enumerate", "zip", "isinstance", "bool", "reversed", "dict", "set", "repr"]
/-- the scope that runs, the scope as it was written -/
structure Sc where
  sc : Scope
  raw : Scope
structure XOk (T : Tab) (k : Nat) (N : List Str) (S : Sc) (X : Cx) : Prop where
  sc : X.env.scope = S.sc
  na : X.N = N
  nd : N.Nodup
  calm : X.calm = true
  xe : X.xe = fun _ _ => False
  room : Room k X.A
  fn : ∀ x, S.raw.names.lookup x = some .cell → X.fn x = true
  free : ∀ x ∈ freeNames, X.mg x = none
  fns : ∀ q ∈ T.fns, Cal X k q.1 q.2.1 q.2.2
  mks : ∀ q ∈ T.mks, ∃ j, j + 1 ≤ k ∧ Mks X j q.1 q.1 q.2.1 q.2.2.1 q.2.2.2
  isi : IsiFact X.K T.cls
  cls : ∀ c ∈ T.cls, X.mg c = some (.ref (He.ga X.K c))
  cons : ∀ q ∈ T.cons, ∃ u v, X.mg q.1 = some u ∧ RelV v u ∧ ∀ P F, Rep X.K P F q.2 v
  self : ∀ q, T.self = some q → Cls X.K (He.ga X.K q.1) ∧ ∀ f ∈ q.2, NoAttr X.K (He.ga X.K q.1) f
  eqs : ∀ q ∈ T.eqs, EqM X k q.1 (eqName q.2.1) q.2.2
theorem Cal.mono {X : Cx} {j k : Nat} {x : Str} {n : Nat} {m : Fn} (h : Cal X j x n m) (l : j ≤ k) : Cal X k x n m := by
  obtain ⟨f, fd, ps, F, r⟩ := h.ok
  exact ⟨f, fd, ps, F.mono l, r⟩

theorem rel_start {K : PySem.W.Frag} {P : Addr} {F H : Hp} {ds : List D} {vs : List V} {p : Pen} {N : List Str} (s : Sub F H) (q : PenAt K P F H p) (r : Reps K P F ds vs) (hn : ds.length ≤ N.length) : Rel K P F ⟨H, 0, 0⟩ F H (envOf N.length ds) (L2.start N vs) p := by
  have hl := r.length
  refine ⟨Step.refl s, q, ?_, fun i c e => ?_, fun i j c e hij hi hj h1 h2 => ?_⟩
  · unfold envOf L2.start
    simp [hl]
  · unfold envOf at e
    unfold L2.start
    by_cases h : i < ds.length
    · rw [List.getElem?_append_left (by simpa using h), List.getElem?_map] at e
      obtain ⟨d, e1, rfl⟩ := Option.map_eq_some_iff.mp e
      obtain ⟨v, e2, rv⟩ := r.get e1
      refine ⟨some v, ?_, v, rfl, rv⟩
      rw [List.getElem?_append_left (by rw [List.length_map]; omega), List.getElem?_map, e2]
      rfl
    · rw [List.getElem?_append_right (by simpa using h), List.length_map] at e
      have e2 := List.getElem?_eq_some_iff.mp e
      obtain ⟨h1, h2⟩ := e2
      rw [List.getElem_replicate] at h2
      subst h2
      rw [List.length_replicate] at h1
      refine ⟨none, ?_, trivial⟩
      rw [List.getElem?_append_right (by rw [List.length_map]; omega), List.length_map]
      rw [List.getElem?_eq_some_iff]
      exact ⟨by rw [List.length_replicate]; omega, by rw [List.getElem_replicate]⟩
  · unfold envOf at hi
    by_cases h : i < ds.length
    · rw [List.getElem?_append_left (by simpa using h), List.getElem?_map] at hi
      obtain ⟨d, e1, rfl⟩ := Option.map_eq_some_iff.mp hi
      cases h1
    · rw [List.getElem?_append_right (by simpa using h), List.length_map] at hi
      obtain ⟨g1, g2⟩ := List.getElem?_eq_some_iff.mp hi
      rw [List.getElem_replicate] at g2
      subst g2
      cases h1
section
variable {P : Program} {w : World} {K : PySem.W.Frag} {mg : Str → Option Value} {base : Heap} {x qual : Str} {params : Arguments} {body : List Stmt} {scope : Scope} {f : Addr} {fd : FuncData}
/-- what the text around a def says -/
structure TabOk (T : Tab) (k : Nat) (P : Program) (w : World) (K : PySem.W.Frag) (mg : Str → Option Value) (base : Heap) : Prop where
  free : ∀ x ∈ freeNames, mg x = none
  fns : ∀ q ∈ T.fns, ∃ f fd ps, FnOk P w K mg base CX0 k f fd ps (spOf K q.2.1 q.2.2) ∧ mg q.1 = some (.ref f) ∧ PySem.W.keepIn K (.ref f) = true ∧ Binds K fd ps []
  mks : ∀ q ∈ T.mks, ∃ j, j + 1 ≤ k ∧ ∃ f fd ps, FnOk P w K mg base CX0 j f fd ps (spIni K q.1 q.2.2.1 q.2.2.2) ∧ Mk K (He.ga K q.1) f ∧ mg q.1 = some (.ref (He.ga K q.1)) ∧ Binds K fd ps [] ∧ InsFact K q.1 q.2.1
  isi : IsiFact K T.cls
  cls : ∀ c ∈ T.cls, mg c = some (.ref (He.ga K c))
  cons : ∀ q ∈ T.cons, ∃ u v, mg q.1 = some u ∧ RelV v u ∧ ∀ P F, Rep K P F q.2 v
  self : ∀ q, T.self = some q → Cls K (He.ga K q.1) ∧ ∀ f ∈ q.2, NoAttr K (He.ga K q.1) f
  eqs : ∀ q ∈ T.eqs, ∃ g fd ps, FnOk P w K mg base CX0 k g fd ps (spOf K 2 q.2.2) ∧ Meth K (He.ga K q.1) (eqName q.2.1) g ∧ Binds K fd ps []
theorem xok_def {T : Tab} {k : Nat} {N ps : List Str} {cdv : Value} {A : Around} {outer : List PySem.Env} {s : Shared} {H : Hp} {E : XK} (t : TabOk T k P w K mg base) (S : FnScope N ps scope) (hr : Room k (A.deeper (envOfC qual scope s.heap.objs.size f cdv))) :
    XOk T k N ⟨scope, scope⟩ (cxOf CX0 P w K mg base N qual scope f cdv A outer s H E).nox where
  sc := rfl
  na := rfl
  nd := S.nd
  calm := rfl
  xe := rfl
  room := hr
  fn := fun _ _ => rfl
  free := t.free
  fns := fun q hq => ⟨t.fns q hq⟩
  mks := fun q hq => by
    obtain ⟨j, hj, r⟩ := t.mks q hq
    exact ⟨j, hj, ⟨r⟩⟩
  isi := t.isi
  cls := t.cls
  cons := t.cons
  self := t.self
  eqs := fun q hq => ⟨t.eqs q hq⟩
/-- THE RULE of a def -/
theorem fn_ok {T : Tab} {k : Nat} {N ps : List Str} {s : DS} (t : TabOk T k P w K mg base) (F : FunD K x qual params body scope [] [] f fd) (S : FnScope N ps scope) (hp : ps.length ≤ N.length) (hb : ∀ X, XOk T k N ⟨scope, scope⟩ X → PSs X body (cS X.K s)) :
    FnOk P w K mg base CX0 (k + 1) f fd ps (spOf K ps.length (fnD ps.length N.length s)) := by
  refine F.ok S (fun vs H Q E h => ?_) (fun cdv A outer sh H vs Q E hr h => ⟨_, PSs.nox (hb _ (xok_def t S hr)), ?_⟩)
  · obtain ⟨P0, F0, ds, p, d, p', _, _, r, hl, _⟩ := h
    rw [← r.length]
    exact hl
  · obtain ⟨P0, F0, ds, p, d, p', s0, q, r, hl, e, k⟩ := h
    unfold fnD at e
    rw [if_pos hl] at e
    obtain ⟨⟨o, p1⟩, e1, e2⟩ := Option.bind_eq_some_iff.mp e
    refine ⟨P0, F0, ⟨H, 0, 0⟩, F0, _, p, o, p1, rel_start s0 q r (by omega), e1, ?_⟩
    cases o with
    | rt d2 =>
      simp only [Option.some.injEq, Prod.mk.injEq] at e2
      obtain ⟨rfl, rfl⟩ := e2
      exact k
    | nx ρ =>
      simp only [Option.some.injEq, Prod.mk.injEq] at e2
      obtain ⟨rfl, rfl⟩ := e2
      exact fun σ' F' H' _ R => k .non F' H' R.step R.pen r_non
    | bk ρ => cases e2
    | ct ρ => cases e2
theorem rel_ini {K : PySem.W.Frag} {P : Addr} {F G : Hp} {ds : List D} {us : List V} {p : Pen} {N : List Str} {c : String} {a dx : Addr} (s : Sub F G) (q : PenAt K P F G p) (r : Reps K P F ds us) (hn : ds.length + 1 ≤ N.length) (ha : G a = none) (hd : G dx = none) (ne : dx ≠ a) :
    Rel K P F ⟨G, a, dx⟩ F (upd (upd G dx (.own a)) a (.ins (He.ga K c) dx [])) (iniEnv c N.length ds) (L2.start N (.ref a :: us)) p := by
  have aP : a ≠ P := fun z => by
    subst z
    exact q.thr ha
  have dP : dx ≠ P := fun z => by
    subst z
    exact q.thr hd
  have hl := r.length
  have sub : Sub G (upd (upd G dx (.own a)) a (.ins (He.ga K c) dx [])) := fun b u e => by
    rw [upd_ne (ne_of_none e ha), upd_ne (ne_of_none e hd)]
    exact e
  have R0 : Rel K P F ⟨G, 0, 0⟩ F G (envOf (N.length - 1) ds) (us.map some ++ List.replicate (N.length - 1 - us.length) none) p := by
    have := rel_start (N := N.tail) s q r (by simp; omega)
    simpa [L2.start] using this
  refine ⟨⟨Sub.refl, fun b u _ e => sub b u e, fun b u e => .inl e, s.trans sub⟩, ⟨?_, q.no⟩, ?_, fun i c2 e => ?_, fun i j c2 e hij hi hj h1 h2 => ?_⟩
  · obtain ⟨L, c1, c2, c3⟩ := q.at_
    exact ⟨L, by rw [upd_ne (Ne.symm aP), upd_ne (Ne.symm dP)]; exact c1, c2, c3⟩
  · have := R0.len
    unfold iniEnv L2.start
    simp at this ⊢
    omega
  · cases i with
    | zero =>
      cases e
      refine ⟨some (.ref a), rfl, a, dx, [], rfl, upd_same, by rw [upd_ne ne, upd_same], by unfold RepF; rfl, s.no ha, s.no hd, ha, hd, aP, dP, ne, rfl, rfl⟩
    | succ i =>
      obtain ⟨ov, e1, h⟩ := R0.cell i c2 (by simpa [iniEnv] using e)
      refine ⟨ov, ?_, ?_⟩
      · unfold L2.start
        have : N.length - (us.length + 1) = N.length - 1 - us.length := by omega
        simpa [this] using e1
      · cases c2 with
        | no => trivial
        | sh d => exact h
        | own xs =>
          exfalso
          have e : (envOf (N.length - 1) ds)[i]? = some (.own xs) := by simpa [iniEnv] using e
          unfold envOf at e
          by_cases h : i < ds.length
          · rw [List.getElem?_append_left (by simpa using h), List.getElem?_map] at e
            obtain ⟨d, e1, e2⟩ := Option.map_eq_some_iff.mp e
            cases e2
          · rw [List.getElem?_append_right (by simpa using h), List.length_map] at e
            obtain ⟨g1, g2⟩ := List.getElem?_eq_some_iff.mp e
            rw [List.getElem_replicate] at g2
            cases g2
        | obj c fs =>
          exfalso
          have e : (envOf (N.length - 1) ds)[i]? = some (.obj c fs) := by simpa [iniEnv] using e
          unfold envOf at e
          by_cases h : i < ds.length
          · rw [List.getElem?_append_left (by simpa using h), List.getElem?_map] at e
            obtain ⟨d, e1, e2⟩ := Option.map_eq_some_iff.mp e
            cases e2
          · rw [List.getElem?_append_right (by simpa using h), List.length_map] at e
            obtain ⟨g1, g2⟩ := List.getElem?_eq_some_iff.mp e
            rw [List.getElem_replicate] at g2
            cases g2
  · have key : ∀ {i : Nat} {c2 : Cell}, (iniEnv c N.length ds)[i]? = some c2 → c2.isOwn = true → False := fun {i c2} hi h1 => by
      cases i with
      | zero =>
        cases hi
        cases h1
      | succ i =>
        have e : (envOf (N.length - 1) ds)[i]? = some c2 := by simpa [iniEnv] using hi
        unfold envOf at e
        by_cases h : i < ds.length
        · rw [List.getElem?_append_left (by simpa using h), List.getElem?_map] at e
          obtain ⟨d, e1, rfl⟩ := Option.map_eq_some_iff.mp e
          cases h1
        · rw [List.getElem?_append_right (by simpa using h), List.length_map] at e
          obtain ⟨g1, g2⟩ := List.getElem?_eq_some_iff.mp e
          rw [List.getElem_replicate] at g2
          subst g2
          cases h1
    exact (key hi h1).elim
/-- THE RULE of an __init__ -/
theorem ini_ok {T : Tab} {k : Nat} {N ps : List Str} {s : DS} {c : String} {n : Nat} (t : TabOk T k P w K mg base) (F : FunD K x qual params body scope [] [] f fd) (S : FnScope N ps scope) (hn : ps.length = n + 1) (hp : ps.length ≤ N.length) (hb : ∀ X, XOk T k N ⟨scope, scope⟩ X → PSs X body (cS X.K s)) :
    FnOk P w K mg base CX0 (k + 1) f fd ps (spIni K c n (iniD c n N.length s)) := by
  refine F.ok S (fun vs H Q E h => ?_) (fun cdv A outer sh H vs Q E hr h => ⟨_, PSs.nox (hb _ (xok_def t S hr)), ?_⟩)
  · obtain ⟨P0, F0, G, ds, p, fs, p', a, dx, us, rfl, _, _, _, _, _, _, r, hl, _⟩ := h
    rw [hn, List.length_cons, ← r.length, hl]
  · obtain ⟨P0, F0, G, ds, p, fs, p', a, dx, us, rfl, rfl, ha, hd, ne, s0, q, r, hl, e, k⟩ := h
    unfold iniD at e
    rw [if_pos hl] at e
    obtain ⟨⟨o, p1⟩, e1, e2⟩ := Option.bind_eq_some_iff.mp e
    refine ⟨P0, F0, ⟨G, a, dx⟩, F0, _, p, o, p1, rel_ini (c := c) s0 q r (by omega) ha hd ne, e1, ?_⟩
    cases o with
    | nx ρ =>
      simp only at e2
      split at e2
      · rename_i c' fs' q2
        split at e2
        · rename_i hc
          subst hc
          simp only [Option.some.injEq, Prod.mk.injEq] at e2
          obtain ⟨rfl, rfl⟩ := e2
          intro σ' F' H' _ R
          have q3 : ρ[0]? = some (.obj c' fs') := by
            unfold Env.at at q2
            cases q3 : ρ[0]? with
            | none =>
              rw [q3] at q2
              cases q2
            | some c2 =>
              rw [q3] at q2
              have q2 : c2 = .obj c' fs' := q2
              rw [q2]
          obtain ⟨ov, ea, b, dy, gs, rfl, k1, k2, rf, n1, n2, g1, g2, np1, np2, ne2, me1, me2⟩ := R.cell 0 _ q3
          subst me1 me2
          exact k F' H' gs R.step R.pen n1 n2 k1 k2 rf
        · cases e2
      · cases e2
    | rt d2 => cases e2
    | bk ρ => cases e2
    | ct ρ => cases e2
end
end Dn
set_option Elab.async false
set_option linter.all false
set_option maxRecDepth 100000
set_option maxHeartbeats 4000000
/-! Dn M: methods that only look; lists put together; ranges as lists; joined texts. -/
namespace Dn
open PySem PySem.Spec PyProof.Rows L2

/-! ### x.index(y) -/
def rIndexT (K : PySem.W.Frag) : V → List V → Hp → VK → Prop := fun x xs H Q => ∃ (a : Addr) (y : V) (d : PyData) (ds : List PyData) (j : Nat) (z : PyData), x = V.ref a ∧ xs = [y] ∧ Dp K H (V.ref a) (.tuple ds) ∧ Dp K H y d ∧
  SeqAt.shaped (.tuple ds) = true ∧ SeqAt.shaped d = true ∧ ds[j]? = some z ∧ PyData.eqv z d = true ∧ (∀ (m : Nat) (z' : PyData), m < j → ds[m]? = some z' → PyData.eqv z' d = false) ∧ Q (.int (j : Nat)) H
section
variable {X : Cx}
theorem mt_indexT (hu : X.A.units + 65 < cLine) : MtR X "tuple.index" (rIndexT X.K) := by
  intro pins s σ H x xs v us Q I rx rxs h
  obtain ⟨a, y, d, ds, j, z, rfl, rfl, hl, hy, sl, sd, hz, hzj, hno, q⟩ := h
  cases rx
  cases rxs with
  | cons ry rt =>
    rename_i uy ut
    cases rt
    obtain ⟨bs, r1⟩ := Dp.reads I d y uy hy ry
    have hxs : PyData.canLayAll0 ds = true := SeqAt.canLay_of_shaped sl
    have hroom : X.A.units + 1 + min (PyData.depthAll ds) d.depth < cLine := room_in_t sd hu
    cases hl with
    | tup hs ha =>
      obtain ⟨its, rv, ⟨⟨cls, dd, data, sls⟩, ho, hc, n, hdt⟩, hlen⟩ := I.tuple hs
      simp only at hc hdt
      subst hc hdt
      obtain ⟨as, h4⟩ := Dp.readsAll I ds _ its ha rv
      have hn : its.length = ds.length := SeqAt.ReadsAll.length ds its as h4
      have hmap : its.map (SeqAt.readOf s.heap) = ds := SeqAt.readsAll_map ds its as hxs h4
      obtain ⟨hjd, _⟩ := List.getElem?_eq_some_iff.mp hz
      have hjl : j < its.length := by omega
      have hj : j < its.toArray.size := by simpa using hjl
      have at_ : ∀ (m : Nat) (hm : m < its.toArray.size) (z' : PyData), ds[m]? = some z' → SeqAt.readOf s.heap its.toArray[m] = z' := by
        intro m hm z' hz'
        have hml : m < its.length := by simpa using hm
        rw [← hmap, List.getElem?_map, List.getElem?_eq_getElem hml] at hz'
        have e1 : SeqAt.readOf s.heap its[m] = z' := Option.some.inj (show some (SeqAt.readOf s.heap its[m]) = some z' from hz')
        simpa using e1
      refine call_meets PySem.F.slot_tuple_index ⟨_, ho, rfl⟩ PySem.F.entry_tuple_index (PySem.F.args_tuple_index_2 _ _)
        (TI.tuple_indexAt a its.toArray n dd sls uy (fun u => PyData.eqv (SeqAt.readOf s.heap u) d) j hj ?_ ?_) ⟨ho, SeqAt.items_eqAt (vs := its.toArray) (show ReadsAll s.heap its.toArray.toList ds as from h4) r1 hxs (SeqAt.canLay_of_shaped sd) hroom, ?_⟩
      · show PyData.eqv (SeqAt.readOf s.heap its.toArray[j]) d = true
        rw [at_ j hj z hz]
        exact hzj
      · intro m hm hmj
        have hmd : m < ds.length := by omega
        have hz' : ds[m]? = some ds[m] := List.getElem?_eq_getElem hmd
        show PyData.eqv (SeqAt.readOf s.heap its.toArray[m]) d = false
        rw [at_ m hm _ hz']
        exact hno m _ hmj hz'
      · exact ⟨.int (j : Nat), H, I.tok _, ⟨_, rfl⟩, q⟩
end
def findEqv (x : D) : List D → Option Nat
  | [] => none
  | z :: zs => if z.eqv x then some 0 else (findEqv x zs).map (· + 1)
theorem findEqv_some {x : D} : ∀ {zs : List D} {j : Nat}, findEqv x zs = some j → (∃ z, zs[j]? = some z ∧ z.eqv x = true) ∧ ∀ (m : Nat) z, m < j → zs[m]? = some z → z.eqv x = false
  | [], _, h => by cases h
  | z :: zs, j, h => by
    unfold findEqv at h
    split at h
    · rename_i e
      cases h
      exact ⟨⟨z, rfl, e⟩, fun m _ hm => by omega⟩
    · rename_i e
      obtain ⟨i, h1, rfl⟩ := Option.map_eq_some_iff.mp h
      obtain ⟨⟨y, h2, h3⟩, h4⟩ := findEqv_some h1
      refine ⟨⟨y, by simpa using h2, h3⟩, fun m w hm hw => ?_⟩
      cases m with
      | zero =>
        simp at hw
        subst hw
        simpa using e
      | succ m => exact h4 m w (by omega) (by simpa using hw)
def gIndex : D → List D → Option D
  | y, [x] => y.its.bind fun xs => if x.dat 16 && xs.all (D.dat 15) then (findEqv x xs).map fun (j : Nat) => D.int (j : Int) else none
  | _, _ => none
def eMz (g : D → List D → Option D) (a : DE) (l : DL) : DE := fun ρ p => (a ρ p).bind fun x => (l ρ x.2).bind fun y => (g x.1 y.1).map fun d => (d, y.2)
/-- a method's rule of lists and of tuples serves this meaning -/
def MtZ (K : PySem.W.Frag) (rl rt : V → List V → Hp → VK → Prop) (g : D → List D → Option D) : Prop := ∀ P F H x v ds vs d Q p, PenAt K P F H p → Sub F H → Rep1 K P F H x v → Reps1 K P F H ds vs → g x ds = some d →
  (∀ w F' H', Ext F H F' H' → Rep K P F' d w → Q w H') → (∀ xs, x = .lst xs → rl v vs H Q) ∧ (∀ xs, x = .tup xs → rt v vs H Q)
theorem pys_get {ys : List D} {j : Nat} {z : PyData} : (pys ys)[j]? = some z ↔ ∃ y, ys[j]? = some y ∧ z = y.py := by
  rw [pys_eq, List.getElem?_map]
  constructor
  · intro h
    obtain ⟨y, h1, rfl⟩ := Option.map_eq_some_iff.mp h
    exact ⟨y, h1, rfl⟩
  · rintro ⟨y, h1, rfl⟩
    rw [h1]
    rfl
theorem index_Z {K : PySem.W.Frag} : MtZ K (rIndexD K) (rIndexT K) gIndex := by
  intro P F H x v ds vs d Q p pa s r1 r2 e k
  unfold gIndex at e
  split at e
  · rename_i y
    obtain ⟨xs, e1, e2⟩ := Option.bind_eq_some_iff.mp e
    obtain ⟨u, rfl, r3⟩ := reps1_1 r2
    split at e2
    · rename_i hd
      rw [Bool.and_eq_true] at hd
      obtain ⟨j, e3, rfl⟩ := Option.map_eq_some_iff.mp e2
      obtain ⟨⟨z, h1, h2⟩, h3⟩ := findEqv_some e3
      refine ⟨fun zs hz => ?_, fun zs hz => ?_⟩
      · subst hz
        cases e1
        have h4 : (D.lst xs).dat 16 = true := hd.2
        obtain ⟨a, ws, rfl, q, _⟩ := d_lst r1
        refine ⟨a, u, y.py, pys xs, j, z.py, rfl, rfl, r1.dp s h4, r3.dp s hd.1, dat_shaped h4, dat_shaped hd.1, pys_get.mpr ⟨z, h1, rfl⟩, h2, fun m z' hm hz => ?_, k _ F H (Ext.refl s) r_int⟩
        obtain ⟨w, h5, rfl⟩ := pys_get.mp hz
        exact h3 m w hm h5
      · subst hz
        cases e1
        have h4 : (D.tup xs).dat 16 = true := hd.2
        obtain ⟨a, ws, rfl, q, _⟩ := d_tup r1
        refine ⟨a, u, y.py, pys xs, j, z.py, rfl, rfl, r1.dp s h4, r3.dp s hd.1, dat_shaped h4, dat_shaped hd.1, pys_get.mpr ⟨z, h1, rfl⟩, h2, fun m z' hm hz => ?_, k _ F H (Ext.refl s) r_int⟩
        obtain ⟨w, h5, rfl⟩ := pys_get.mp hz
        exact h3 m w hm h5
    · cases e2
  · cases e
section
variable {X : Cx} {o e : Expr} {fo : DE} {l : DL} {name : Str} {apos cpos : Pos} {il it : String} {rl rt : V → List V → Hp → VK → Prop} {g : D → List D → Option D}
theorem x_mz (sl : Slot "list" name il) (tl : typeOf (.builtin il) = pure (.type "method_descriptor")) (st : Slot "tuple" name it) (tt : typeOf (.builtin it) = pure (.type "method_descriptor")) (hml : MtR X il rl) (hmt : MtR X it rt) (hg : MtZ X.K rl rt g)
    (hseq : ∀ x ds d, g x ds = some d → (∃ xs, x = .lst xs) ∨ ∃ xs, x = .tup xs) (ho : PE X o (cB X.K fo)) (ha : PA X [e] (cAB X.K l)) (n : notStar e = true) (hb : attrOk o = true) (hline : (apos.endLine == cpos.line) = true) : PE X (.Call (.Attribute o name apos) [e] [] cpos) (cE X.K (eMz g fo l)) :=
  PE.imp (pe_mZ sl tl st tt hml hmt ho ha (attr_plain hb) (few1 n) hline (star_plain n)) fun σ H Q ⟨P, F0, G0, F, ρ, p, d, p', R, e, k⟩ => by
    simp only [eMz, Option.bind_eq_some_iff, Option.map_eq_some_iff, Prod.mk.injEq] at e
    obtain ⟨⟨x, p1⟩, e1, ⟨ys, p2⟩, e2, d', e3, rfl, rfl⟩ := e
    refine ⟨P, F0, G0, F, ρ, p, x, p1, R, e1, fun v F1 H1 s1 q1 r1 => ?_⟩
    rcases hseq x ys d' e3 with ⟨xs, rfl⟩ | ⟨xs, rfl⟩
    · obtain ⟨a, us, rfl, h1, _⟩ := d_lst0 r1
      refine .inl ⟨⟨a, us, rfl, h1⟩, P, F0, G0, F1, ρ, p1, ys, p2, R.go s1 q1, e2, fun vs F2 H2 s2 q2 r2 => ?_⟩
      exact (hg P F2 H2 _ _ ys vs d' Q p2 q2 s2.fh (r1.go s2 q1.dk) r2 e3 fun w F' H' t rw => k w F' H' ((s1.trans s2 q1.thr).trans (t.step P) q2.thr) (q2.ext t) rw).1 xs rfl
    · obtain ⟨a, us, rfl, h1, _⟩ := d_tup r1
      refine .inr ⟨⟨a, us, rfl, s1.fh.sqZ h1⟩, P, F0, G0, F1, ρ, p1, ys, p2, R.go s1 q1, e2, fun vs F2 H2 s2 q2 r2 => ?_⟩
      exact (hg P F2 H2 _ _ ys vs d' Q p2 q2 s2.fh (r1.go s2 q1.dk) r2 e3 fun w F' H' t rw => k w F' H' ((s1.trans s2 q1.thr).trans (t.step P) q2.thr) (q2.ext t) rw).2 xs rfl
theorem x_index (hr : Room 0 X.A) (ho : PE X o (cB X.K fo)) (ha : PA X [e] (cAB X.K l)) (n : notStar e = true) (hb : attrOk o = true) (hline : (apos.endLine == cpos.line) = true) : PE X (.Call (.Attribute o "index" apos) [e] [] cpos) (cE X.K (eMz gIndex fo l)) :=
  x_mz PySem.F.slot_list_index PySem.F.type_list_index PySem.F.slot_tuple_index PySem.F.type_tuple_index (mt_indexD (Room.u65 hr)) (mt_indexT (Room.u65 hr)) index_Z (fun x ds d h => by
    unfold gIndex at h
    split at h
    · obtain ⟨xs, h1, _⟩ := Option.bind_eq_some_iff.mp h
      revert h1
      cases x <;> intro h1 <;> first | exact .inl ⟨_, rfl⟩ | exact .inr ⟨_, rfl⟩ | cases h1
    · cases h) ho ha n hb hline
end

/-! ### xs + ys, xs * n: new lists -/
def lCat (a b : DE) : DL := fun ρ p => (a ρ p).bind fun x => (b ρ x.2).bind fun y => match x.1, y.1 with
  | .lst xs, .lst ys => if xs.length + ys.length ≤ sizeLine then some (xs ++ ys, y.2) else none
  | _, _ => none
def lRep (a b : DE) : DL := fun ρ p => (a ρ p).bind fun x => (b ρ x.2).bind fun y => match x.1, y.1 with
  | .lst xs, .int k => if -(2 ^ 63) ≤ k ∧ k < 2 ^ 63 ∧ xs.length * k.toNat ≤ sizeLine then some ((List.replicate k.toNat xs).flatten, y.2) else none
  | _, _ => none
section
variable {X : Cx} {a b e : Expr} {fa fb : DE} {l : DL} {pos p1 p2 p3 : Pos}
theorem x_cat (ha : PE X a (cB X.K fa)) (hb : PE X b (cB X.K fb)) : PE X (.BinOp a .Add b pos) (cF X.K (lCat fa fb)) :=
  PE.imp (pe_op op_cat ha hb) fun σ H Q ⟨P, F0, G0, F, ρ, p, d, p', R, e, k⟩ => by
    simp only [lCat, Option.bind_eq_some_iff] at e
    obtain ⟨⟨x, p1⟩, e1, ⟨y, p2⟩, e2, e3⟩ := e
    refine go2 R e1 e2 fun v u F1 H1 s1 q1 r1 r2 => ?_
    simp only at e3
    split at e3
    · rename_i xs ys
      split at e3
      · rename_i hz
        simp only [Option.some.injEq, Prod.mk.injEq] at e3
        obtain ⟨rfl, rfl⟩ := e3
        obtain ⟨a, vs, rfl, h1, _, t1⟩ := d_lst0 r1
        obtain ⟨b, us, rfl, h2, _, t2⟩ := d_lst0 r2
        have l1 := t1.length
        have l2 := t2.length
        exact ⟨a, b, vs, us, rfl, rfl, h1, h2, by omega, new_lst s1 q1 (by rw [List.length_append]; omega) (t1.append t2) k⟩
      · cases e3
    · cases e3
theorem x_rep (ha : PE X a (cB X.K fa)) (hb : PE X b (cB X.K fb)) : PE X (.BinOp a .Mult b pos) (cF X.K (lRep fa fb)) :=
  PE.imp (pe_op op_rep ha hb) fun σ H Q ⟨P, F0, G0, F, ρ, p, d, p', R, e, k⟩ => by
    simp only [lRep, Option.bind_eq_some_iff] at e
    obtain ⟨⟨x, p1⟩, e1, ⟨y, p2⟩, e2, e3⟩ := e
    refine go2 R e1 e2 fun v u F1 H1 s1 q1 r1 r2 => ?_
    simp only at e3
    split at e3
    · rename_i xs n
      split at e3
      · rename_i hz
        simp only [Option.some.injEq, Prod.mk.injEq] at e3
        obtain ⟨rfl, rfl⟩ := e3
        obtain ⟨a, vs, rfl, h1, _, t1⟩ := d_lst0 r1
        cases d_int r2
        have l1 := t1.length
        exact ⟨a, n, vs, rfl, rfl, h1, hz.1, hz.2.1, by rw [← l1]; exact hz.2.2, new_lst s1 q1 (by rw [repl_len, ← l1]; exact hz.2.2) (t1.repl _) k⟩
      · cases e3
    · cases e3
/-! list(range(..)) -/
def lRng1 (f : DE) : DL := fun ρ p => (f ρ p).bind fun x => match x.1 with
  | .int j => if -(2 ^ 62) ≤ j ∧ j ≤ 16777216 then some ((List.range j.toNat).map fun i : Nat => .int i, x.2) else none
  | _ => none
def lRng2 (a b : DE) : DL := fun ρ p => (a ρ p).bind fun x => (b ρ x.2).bind fun y => match x.1, y.1 with
  | .int i, .int j => if -(2 ^ 62) ≤ i ∧ i < 2 ^ 62 ∧ -(2 ^ 62) ≤ j ∧ j < 2 ^ 62 ∧ (j - i).toNat ≤ 16777216 then some ((List.range (j - i).toNat).map fun k : Nat => .int (i + k), y.2) else none
  | _, _ => none
theorem reps_rg {K : PySem.W.Frag} {P : Addr} {F : Hp} (a b : Int) : Reps K P F ((List.range (b - a).toNat).map fun k : Nat => D.int (a + k)) (rgV a b) := by
  unfold rgV
  have h1 : ((List.range (b - a).toNat).map fun k : Nat => D.int (a + k)) = ((List.range (b - a).toNat).map fun k : Nat => a + (k : Int)).map D.int := by
    rw [List.map_map]
    rfl
  have h2 : ((List.range (b - a).toNat).map fun k : Nat => V.int (a + k)) = ((List.range (b - a).toNat).map fun k : Nat => a + (k : Int)).map V.int := by
    rw [List.map_map]
    rfl
  rw [h1, h2]
  exact Reps.ints
theorem x_lrng1 (ha : PE X a (cB X.K fa)) (n : notStar a = true) (hc : X.calm = true) (hG : Gl X "list") (hm : X.mg "list" = none) (hG2 : Gl X "range") (hm2 : X.mg "range" = none) : PE X (.Call (.Name "list" p1) [.Call (.Name "range" p2) [a] [] pos] [] p3) (cF X.K (lRng1 fa)) :=
  PE.imp (pe_listRg hc hG hm (prg_1 hG2 hm2 ha (star_plain n))) fun σ H Q ⟨P, F0, G0, F, ρ, p, d, p', R, e, k⟩ => by
    simp only [lRng1, Option.bind_eq_some_iff] at e
    obtain ⟨⟨x, p1⟩, e1, e2⟩ := e
    refine ⟨P, F0, G0, F, ρ, p, x, p1, R, e1, fun v F1 H1 s q r => ?_⟩
    simp only at e2
    split at e2
    · rename_i j
      split at e2
      · rename_i hb
        simp only [Option.some.injEq, Prod.mk.injEq] at e2
        obtain ⟨rfl, rfl⟩ := e2
        cases d_int r
        refine ⟨j, rfl, ⟨by omega, by omega, hb.1, by omega, by omega⟩, new_lst s q (by rw [rgV_length, sizeLine_eq]; omega) ?_ k⟩
        have := reps_rg (K := X.K) (P := P) (F := F1) 0 j
        simpa using this
      · cases e2
    · cases e2
theorem x_lrng2 (ha : PE X a (cB X.K fa)) (hb : PE X b (cB X.K fb)) (n : notStar a = true) (n2 : notStar b = true) (hc : X.calm = true) (hG : Gl X "list") (hm : X.mg "list" = none) (hG2 : Gl X "range") (hm2 : X.mg "range" = none) : PE X (.Call (.Name "list" p1) [.Call (.Name "range" p2) [a, b] [] pos] [] p3) (cF X.K (lRng2 fa fb)) :=
  PE.imp (pe_listRg hc hG hm (prg_2 hG2 hm2 ha hb (star_plain n) (star_plain n2) (by rw [star_plain n2]; rfl))) fun σ H Q ⟨P, F0, G0, F, ρ, p, d, p', R, e, k⟩ => by
    simp only [lRng2, Option.bind_eq_some_iff] at e
    obtain ⟨⟨x, p1⟩, e1, ⟨y, p2⟩, e2, e3⟩ := e
    refine go2 (R := fun v u H1 => ∃ i j, v = .int i ∧ u = .int j ∧ RgOk i j ∧ ∀ q, H1 q = none → Q (.ref q) (upd H1 q (.lst (rgV i j)))) R e1 e2 fun v u F1 H1 s q r r2 => ?_
    simp only at e3
    split at e3
    · rename_i i j
      split at e3
      · rename_i hb
        simp only [Option.some.injEq, Prod.mk.injEq] at e3
        obtain ⟨rfl, rfl⟩ := e3
        cases d_int r
        cases d_int r2
        exact ⟨i, j, rfl, rfl, ⟨hb.1, hb.2.1, hb.2.2.1, hb.2.2.2.1, by omega⟩, new_lst s q (by rw [rgV_length, sizeLine_eq]; omega) (reps_rg i j) k⟩
      · cases e3
    · cases e3
end
end Dn
set_option Elab.async false
set_option linter.all false
set_option maxRecDepth 100000
set_option maxHeartbeats 4000000
/-! Dn V: the pen's fields; a list's pop. -/
namespace Dn
open PySem PySem.Spec PyProof.Rows L2

inductive PK where
  | cells | at_ | digits | count | fold
  deriving DecidableEq
def PK.key : PK → String
  | .cells => "cells" | .at_ => "at" | .digits => "digits" | .count => "count" | .fold => "fold"
def Pen.get (p : Pen) : PK → D
  | .cells => .lst (p.cells.map D.int)
  | .at_ => .int p.at_
  | .digits => .int p.digits
  | .count => .int p.count
  | .fold => .int p.fold
def Pen.put (p : Pen) (n : Int) : PK → Option Pen
  | .cells => none
  | .at_ => some { p with at_ := n }
  | .digits => some { p with digits := n }
  | .count => some { p with count := n }
  | .fold => some { p with fold := n }
def ePen (i : Nat) (k : PK) : DE := fun ρ p => match ρ.at i with
  | .sh .pen => some (p.get k, p)
  | _ => none
def sPen (i : Nat) (k : PK) (f : DE) : DS := fun ρ p => match ρ.at i with
  | .sh .pen => (f ρ p).bind fun x => match x.1 with
    | .int n => (x.2.put n k).map fun p' => (.nx ρ, p')
    | _ => none
  | _ => none
def PK.v (L : Addr) (p : Pen) : PK → V
  | .cells => .ref L
  | .at_ => .int p.at_
  | .digits => .int p.digits
  | .count => .int p.count
  | .fold => .int p.fold
theorem pen_val (L : Addr) (p : Pen) (k : PK) : valV (penKvs L p) (Sum.inr (k.key : Str)) = some (k.v L p) := by
  cases k <;> rfl
theorem pen_put (L : Addr) (p p' : Pen) (k : PK) (n : Int) (h : p.put n k = some p') : putK (penKvs L p) (Sum.inr (k.key : Str)) (.int n) = penKvs L p' := by
  cases k with
  | cells => cases h
  | _ => cases h; rfl
theorem PenAt.new {K : PySem.W.Frag} {P : Addr} {F H : Hp} {p p' : Pen} {k : PK} {n : Int} (q : PenAt K P F H p) (e : p.put n k = some p') : ∃ L, H P = some (.dK (penKvs L p)) ∧ PenAt K P F (upd H P (.dK (penKvs L p'))) p' := by
  obtain ⟨L, c1, c2, c3⟩ := q.at_
  refine ⟨L, c1, ⟨L, upd_same, ?_, ?_⟩, q.no⟩
  · cases k with
    | cells => cases e
    | _ => cases e; exact c2
  · cases k with
    | cells => cases e
    | _ => cases e; exact c3
section
variable {X : Cx} {e : Expr} {f : DE} {x ks : Str} {i j : Nat} {k : PK} {pos p1 p2 p3 : Pos}
theorem sh_at {K : PySem.W.Frag} {P : Addr} {F0 : Hp} {G0 : Gd} {F H : Hp} {ρ : Env} {σ : L2.St} {p : Pen} {d : D} (R : Rel K P F0 G0 F H ρ σ p) (q : ρ.at i = .sh d) : ∃ v, σ[i]? = some (some v) ∧ Rep K P F d v := by
  have q2 : ρ[i]? = some (.sh d) := by
    unfold Env.at at q
    cases q3 : ρ[i]? with
    | none =>
      rw [q3] at q
      cases q
    | some c2 =>
      rw [q3] at q
      have q : c2 = .sh d := q
      rw [q]
  obtain ⟨ov, e1, v, rfl, r⟩ := R.cell i _ q2
  exact ⟨v, e1, r⟩
theorem x_pen (hr : Room 0 X.A) (hN : X.N[i]? = some x) (hv : Vis X.env.scope x) (hd : (x == ("__debug__" : Str)) = false) (hcd : (x == ("__classdict__" : Str)) = false) (hk : ks = (k.key : Str)) : PE X (.Subscript (.Name x p1) (.Constant (.str ks) j p2) pos) (cE X.K (ePen i k)) :=
  PE.imp (pe_dget (by have := Room.u65 hr; omega) (pe_var hN hv hd hcd) pe_str (fun _ _ => rfl)) fun σ H Q ⟨P, F0, G0, F, ρ, p, d, p', R, e, kk⟩ => by
    unfold ePen at e
    split at e
    · rename_i q
      simp only [Option.some.injEq, Prod.mk.injEq] at e
      obtain ⟨rfl, rfl⟩ := e
      obtain ⟨v, e1, r⟩ := sh_at R q
      unfold Rep at r
      subst r
      obtain ⟨L, c1, c2, c3⟩ := R.pen.at_
      subst hk
      refine ⟨.ref P, e1, P, k.v L p, rfl, .inl ⟨penKvs L p, Sum.inr (k.key : Str), .inl c1, rfl, (pen_val L p k).symm⟩, kk _ F H (Step.refl R.sub) R.pen ?_⟩
      cases k with
      | cells =>
        show Rep X.K P F (.lst (p.cells.map D.int)) (.ref L)
        unfold Rep
        exact ⟨L, p.cells.map V.int, rfl, c2, by rw [List.length_map]; exact c3, Reps.ints⟩
      | at_ => exact r_int
      | digits => exact r_int
      | count => exact r_int
      | fold => exact r_int
    · cases e
theorem xs_pen (hr : Room 0 X.A) (hN : X.N[i]? = some x) (hv : Vis X.env.scope x) (hd : (x == ("__debug__" : Str)) = false) (hcd : (x == ("__classdict__" : Str)) = false) (hk : ks = (k.key : Str)) (h : PE X e (cE X.K f)) :
    PS X (.Assign [.Subscript (.Name x p1) (.Constant (.str ks) j p2) p3] e pos) (cS X.K (sPen i k f)) :=
  PS.imp (ps_dput (by have := Room.u65 hr; omega) (pe_var hN hv hd hcd) pe_str h (by cases e <;> rfl)) fun D σ H ⟨P, F0, G0, F, ρ, p, o, p', R, e, kk⟩ => by
    unfold sPen at e
    split at e
    · rename_i q
      obtain ⟨⟨d, p1⟩, e1, e2⟩ := Option.bind_eq_some_iff.mp e
      simp only at e2
      split at e2
      · rename_i n
        obtain ⟨p2, e3, e4⟩ := Option.map_eq_some_iff.mp e2
        simp only [Prod.mk.injEq] at e4
        obtain ⟨rfl, rfl⟩ := e4
        refine ⟨P, F0, G0, F, ρ, p, _, p1, R, e1, fun v F1 H1 s1 q1 r1 => ?_⟩
        have R1 := R.go s1 q1
        obtain ⟨u, e5, r⟩ := sh_at R q
        unfold Rep at r r1
        subst r r1
        obtain ⟨L, c1, c2⟩ := q1.new e3
        subst hk
        refine ⟨.ref P, e5, P, _, rfl, .inl ⟨penKvs L p1, Sum.inr (k.key : Str), c1, rfl, (by show 5 < sizeLine; rw [sizeLine_eq]; decide), rfl⟩, ?_⟩
        rw [pen_put L p1 p2 k n e3]
        refine kk σ F1 _ s1.ff (R1.go ⟨Sub.refl, fun b u nb e => ?_, fun b u e => .inl e, fun b u e => ?_⟩ c2)
        · rw [upd_ne nb]
          exact e
        · have nb : b ≠ P := fun z => by
            rw [z, q1.no] at e
            cases e
          rw [upd_ne nb]
          exact R1.sub _ _ e
      · cases e2
    · cases e
/-- x.append(y.pop(e)) -/
def sAppPop (i j : Nat) (f : DE) : DS := fun ρ p => if i = j then none else match ρ.at i, ρ.at j with
  | .own xs, .own ys => (f ρ p).bind fun x => match x.1 with
    | .int n => if -(2 ^ 63) ≤ n ∧ n < 2 ^ 63 ∧ xs.length < sizeLine then (seqIndex? n ys.length).bind fun m => (ys[m]?).map fun d => (.nx ((ρ.set j (.own (ys.eraseIdx m))).set i (.own (xs ++ [d]))), x.2) else none
    | _ => none
  | _, _ => none
theorem at_set_ne {ρ : Env} {i j : Nat} {c : Cell} (h : j ≠ i) : Env.at (ρ.set j c) i = ρ.at i := by
  unfold Env.at
  rw [List.getElem?_set_ne h]
theorem xs_appPop {y : Str} {q1 q2 q3 pos' : Pos} {p4 : Pos} (hN : X.N[i]? = some x) (hv : Vis X.env.scope x) (hd : (x == ("__debug__" : Str)) = false) (hcd : (x == ("__classdict__" : Str)) = false)
    (hN2 : X.N[j]? = some y) (hv2 : Vis X.env.scope y) (hd2 : (y == ("__debug__" : Str)) = false) (hcd2 : (y == ("__classdict__" : Str)) = false) (h : PE X e (cE X.K f)) (n : notStar e = true) (hl : (pos'.endLine == pos.line) = true) (hl2 : (q2.endLine == q3.line) = true) :
    PS X (.Expr (.Call (.Attribute (.Name x p1) "append" pos') [.Call (.Attribute (.Name y q1) "pop" q2) [e] [] q3] [] pos) p4) (cS X.K (sAppPop i j f)) :=
  PS.imp (ps_expr (pe_bm PySem.F.plainAttrs_list PySem.F.slot_list_append PySem.F.type_list_append mt_append (pe_var hN hv hd hcd)
    (pa_cons (pe_bm PySem.F.plainAttrs_list PySem.F.slot_list_pop PySem.F.type_list_pop mt_popAt (pe_var hN2 hv2 hd2 hcd2) (pa_cons h pa_nil (star_plain n)) rfl (few1 n) hl2 (star_plain n) (by rfl)) pa_nil (by rfl)) rfl (few1 rfl) hl (by rfl) (by rfl)) (swaps_plain rfl)) fun D σ H ⟨P, F0, G0, F, ρ, p, o, p', R, e, k⟩ => by
    unfold sAppPop at e
    split at e
    · cases e
    · rename_i hij
      split at e
      · rename_i xs ys q qj
        obtain ⟨⟨d, p1⟩, e1, e2⟩ := Option.bind_eq_some_iff.mp e
        simp only at e2
        split at e2
        · rename_i m
          split at e2
          · rename_i hz
            obtain ⟨kk, e3, e4⟩ := Option.bind_eq_some_iff.mp e2
            obtain ⟨dd, e5, e6⟩ := Option.map_eq_some_iff.mp e4
            simp only [Prod.mk.injEq] at e6
            obtain ⟨rfl, rfl⟩ := e6
            obtain ⟨a, vs, ea, h1, z, r, _⟩ := R.ow q
            obtain ⟨b, us, eb, g1, zb, rb, _⟩ := R.ow qj
            refine ⟨.ref a, ea, .inl ⟨rfl, vs, SqL.of h1⟩, .ref b, eb, .inl ⟨rfl, us, SqL.of g1⟩, P, F0, G0, F, ρ, p, _, p1, R, e1, fun v F1 H1 s1 q1 r1 => ?_⟩
            unfold Rep at r1
            subst r1
            have R1 := R.go s1 q1
            obtain ⟨a', vs', ea', h1', z', r', _, _, hp⟩ := R1.ow q
            rw [ea] at ea'
            cases ea'
            obtain ⟨b', us', eb', g1', zb', rb', _, _, hpb⟩ := R1.ow qj
            rw [eb] at eb'
            cases eb'
            have hlen := r'.length
            have hlenb := rb'.length
            obtain ⟨w, e7, rw7⟩ := rb'.get e5
            have R2 := R1.mut qj eb (us := us'.eraseIdx kk) (ys := ys.eraseIdx kk) (Nat.le_trans (List.length_eraseIdx_le us' kk) zb') (rb'.eraseIdx kk)
            have q2 : Env.at (ρ.set j (.own (ys.eraseIdx kk))) i = .own xs := by rw [at_set_ne (fun z => hij z.symm)]; exact q
            obtain ⟨a'', vs'', ea'', h1'', z'', r'', _⟩ := R2.ow q2
            rw [ea] at ea''
            cases ea''
            have hlen2 := r''.length
            exact ⟨b, us', m, kk, w, rfl, rfl, g1', hz.1, hz.2.1, by rw [← hlenb]; exact e3, e7, a, vs'', w, rfl, rfl, h1'', by omega, k σ F1 _ s1.ff (R2.mut q2 ea (by rw [List.length_append, List.length_singleton]; omega) (r''.append (Reps.cons rw7 Reps.nil)))⟩
          · cases e2
        · cases e2
      · cases e
end
end Dn
set_option Elab.async false
set_option linter.all false
set_option maxRecDepth 100000
set_option maxHeartbeats 4000000
/-! Dn X: joined texts, lists turned round, chains as values. -/
namespace Dn
open PySem PySem.Spec PyProof.Rows L2

def strsOf : List D → Option (List Str)
  | [] => some []
  | .str i :: xs => (strsOf xs).map (i :: ·)
  | _ :: _ => none
theorem strsOf_eq : ∀ {xs : List D} {ns : List Str}, strsOf xs = some ns → xs = ns.map D.str
  | [], ns, h => by
    unfold strsOf at h
    cases h
    rfl
  | .str i :: xs, ns, h => by
    unfold strsOf at h
    obtain ⟨ms, h1, rfl⟩ := Option.map_eq_some_iff.mp h
    rw [strsOf_eq h1]
    rfl
  | .non :: _, _, h | .bl _ :: _, _, h | .int _ :: _, _, h | .lst _ :: _, _, h | .tup _ :: _, _, h | .wtup _ :: _, _, h | .ins _ _ :: _, _, h | .fn _ :: _, _, h | .pen :: _, _, h => by
    unfold strsOf at h
    cases h
theorem strsOf_map : ∀ ns : List Str, strsOf (ns.map D.str) = some ns
  | [] => rfl
  | n :: ns => by rw [List.map_cons, strsOf, strsOf_map ns]; rfl
theorem Reps.strs_inv {K : PySem.W.Frag} {P : Addr} {F : Hp} : ∀ {ns : List Str} {vs : List V}, Reps K P F (ns.map D.str) vs → vs = ns.map V.str
  | [], vs, h => by
    unfold Reps at h
    exact h
  | n :: ns, vs, h => by
    obtain ⟨v, r, rfl, q, t⟩ := Reps.inv h
    unfold Rep at q
    subst q
    rw [Reps.strs_inv t]
    rfl
def gJoin : D → D → Option D
  | .str a, y => y.its.bind fun xs => (strsOf xs).bind fun ys => if (ys.map (·.length)).sum + ys.length * a.length ≤ 16777216 then some (.str (Txt.join a ys)) else none
  | _, _ => none
section
variable {X : Cx} {a b c e : Expr} {fa fb fc : DE} {l : DL} {pos p1 p2 p3 : Pos}
theorem x_join {apos cpos : Pos} (ha : PE X a (cB X.K fa)) (hb : PE X b (cB X.K fb)) (n : notStar b = true) (hb2 : attrOk a = true) (hline : (apos.endLine == cpos.line) = true) : PE X (.Call (.Attribute a "join" apos) [b] [] cpos) (cE X.K (eBin gJoin fa fb)) :=
  PE.imp (pe_join ha hb (star_plain n) (attr_plain hb2) hline) fun σ H Q ⟨P, F0, G0, F, ρ, p, d, p', R, e, k⟩ => by
    simp only [eBin, Option.bind_eq_some_iff, Option.map_eq_some_iff, Prod.mk.injEq] at e
    obtain ⟨⟨x, p1⟩, e1, ⟨y, p2⟩, e2, d', e3, rfl, rfl⟩ := e
    cases x with
    | str sep =>
      have e3 : (y.its.bind fun xs => (strsOf xs).bind fun ys => if (ys.map (·.length)).sum + ys.length * sep.length ≤ 16777216 then some (D.str (Txt.join sep ys)) else none) = some d' := e3
      obtain ⟨xs, e4, e5⟩ := Option.bind_eq_some_iff.mp e3
      obtain ⟨ys, e6, e7⟩ := Option.bind_eq_some_iff.mp e5
      split at e7
      · rename_i hz
        cases e7
        have h := strsOf_eq e6
        subst h
        refine ⟨P, F0, G0, F, ρ, p, _, p1, R, e1, fun v F1 H1 s1 q1 r1 => ?_⟩
        cases d_str r1
        refine ⟨⟨_, rfl⟩, P, F0, G0, F1, ρ, p1, y, p2, R.go s1 q1, e2, fun u F2 H2 s2 q2 r2 => ?_⟩
        obtain ⟨b, us, rfl, h1, _, t⟩ := its_of r2 s2.fh e4
        have h := Reps.strs_inv t
        subst h
        exact ⟨_, b, ys, rfl, rfl, h1.symm, hz, k _ F2 H2 (s1.trans s2 q1.thr) q2 r_str⟩
      · cases e7
    | _ => cases e3
/-- xs[::-1] of a list -/
def lRev (f : DE) : DL := fun ρ p => (f ρ p).bind fun x => match x.1 with
  | .lst xs => some (xs.reverse, x.2)
  | _ => none
theorem Reps.reverse {K : PySem.W.Frag} {P : Addr} {F : Hp} : ∀ {xs : List D} {vs : List V}, Reps K P F xs vs → Reps K P F xs.reverse vs.reverse
  | [], vs, h => by
    rw [Reps.nil_iff] at h
    subst h
    exact Reps.nil
  | x :: xs, vs, h => by
    obtain ⟨v, r, rfl, q, t⟩ := Reps.inv h
    rw [List.reverse_cons, List.reverse_cons]
    exact t.reverse.append (Reps.cons q Reps.nil)
theorem x_rev {kk : Nat} (ha : PE X a (cB X.K fa)) : PE X (.Subscript a (.Slice none none (some (.UnaryOp .USub (.Constant (.int 1) kk p1) p2)) p3) pos) (cF X.K (lRev fa)) :=
  PE.imp (pe_revL ha) fun σ H Q ⟨P, F0, G0, F, ρ, p, d, p', R, e, k⟩ => by
    simp only [lRev, Option.bind_eq_some_iff] at e
    obtain ⟨⟨x, p1⟩, e1, e2⟩ := e
    refine ⟨P, F0, G0, F, ρ, p, x, p1, R, e1, fun v F1 H1 s q r => ?_⟩
    simp only at e2
    split at e2
    · rename_i xs
      simp only [Option.some.injEq, Prod.mk.injEq] at e2
      obtain ⟨rfl, rfl⟩ := e2
      obtain ⟨a, vs, rfl, h1, z, t⟩ := d_lst r
      exact ⟨a, vs, rfl, h1, new_lst s q (by rw [List.length_reverse]; exact z) t.reverse k⟩
    · cases e2
/-- a < b < c as a value -/
theorem x_chain {op op' : CmpOp} {g h : D → D → Option Bool} {r r' : R2} (ho : OpR X (compareOp op) r) (ho' : OpR X (compareOp op') r') (hg : OpB X.K r g) (hh : OpB X.K r' h) (ha : PE X a (cB X.K fa)) (hb : PE X b (cB X.K fb)) (hc : PE X c (cB X.K fc))
    (hm : lastMarks [op, op'] [b, c] = false) : PE X (.Compare a [op, op'] [b, c] pos) (cE X.K (eT (tChn g h fa fb fc))) :=
  PE.imp (pe_chain ho ho' ha hb hc hm) fun σ H Q z => by
    obtain ⟨P, F0, G0, F, ρ, p, d, p', L, e, k⟩ := z
    simp only [eT, tChn, Option.map_eq_some_iff, Option.bind_eq_some_iff, Prod.mk.injEq, Prod.exists] at e
    obtain ⟨bb, pz, ⟨x, p1, e1, y, p2, e2, c, e3, e4⟩, rfl, rfl⟩ := e
    refine go2 (R := fun v u H2 => r v u H2 fun z H3 => ∃ k, z = .bl k ∧ (if k = true then cB X.K fc σ H3 fun w' H4 => r' u w' H4 Q else Q (.bl false) H3)) L e1 e2 fun v u F' H' s q r1 r2 => ?_
    refine hg P F' H' x y v u c _ p2 q s.fh r1 r2 e3 ⟨c, rfl, ?_⟩
    cases c with
    | false =>
      simp only [Bool.false_eq_true, if_false, Option.some.injEq, Prod.mk.injEq] at e4
      obtain ⟨rfl, rfl⟩ := e4
      exact k _ F' H' s q r_bl
    | true =>
      simp only [if_true, Option.bind_eq_some_iff, Option.map_eq_some_iff, Prod.mk.injEq, Prod.exists] at e4
      obtain ⟨w, p3, e5, d', e6, rfl, rfl⟩ := e4
      rw [if_pos rfl]
      refine ⟨P, F0, G0, F', ρ, p2, w, p3, L.go s q, e5, fun wv F3 H3 s3 q3 r3 => ?_⟩
      exact hh P F3 H3 y w u wv _ _ p3 q3 s3.fh (r2.go s3 q.dk) r3 e6 (k _ F3 H3 (s.trans s3 q.thr) q3 r_bl)
end
end Dn
set_option Elab.async false
set_option linter.all false
set_option maxRecDepth 100000
set_option maxHeartbeats 4000000
/-! Dn E: == and != of a class's own. -/
namespace Dn
open PySem PySem.Spec PyProof.Rows L2

def rInsM (K : PySem.W.Frag) (c : String) (f : Fn) : R2 := fun x y H Q => ∃ a b dx gs dy hs, x = .ref a ∧ y = .ref b ∧ H a = some (.ins (He.ga K c) dx gs) ∧ H b = some (.ins (He.ga K c) dy hs) ∧ spOf K 2 f [x, y] H (fun v H' => ∃ t, v = .bl t ∧ Q v H') E0
def eqOp : Bool → CmpOp
  | true => .NotEq
  | false => .Eq
theorem op_insM {X : Cx} {k : Nat} {c : String} {ne : Bool} {f : Fn} (h : EqM X k c (eqName ne) f) (hr : Room k X.A) : OpR X (compareOp (eqOp ne)) (rInsM X.K c f) := by
  intro pins s σ H x y v u Q I rx ry hq
  obtain ⟨a, b, dx, gs, dy, hs, rfl, rfl, ha, hb', hsp⟩ := hq
  obtain ⟨g, fd, ps, F, M, hb⟩ := h.ok
  cases rx
  cases ry
  obtain ⟨mA, J, _⟩ := ins_get I.hok ha
  obtain ⟨mB, J', _⟩ := ins_get I.hok hb'
  obtain ⟨od, J, _⟩ := J.look
  obtain ⟨od', J', _⟩ := J'.look
  obtain ⟨m, hF⟩ := I.fr
  have e0 := I.env0
  have hl := F.len _ _ _ _ hsp
  have r2 : Vals [V.ref a, V.ref b] [Value.ref a, Value.ref b] := .cons rfl (.cons rfl .nil)
  have key : ∀ {op : CmpOp}, PySem.W.findIn X.K (.ref (He.ga X.K c)) (cmpInfo op).2.1 = some (some (.ref g)) → wpAny (model X.prog X.w) X.A (richCompare op (.ref a) (.ref b)) (EP X pins σ Q) X.xe s := fun {op} hs => by
    refine PySem.W.cmp_K (op := op) (tb := .ref (He.ga X.K c)) hr.units0 hF I.ok.mod.kin J J'.type (by simp [PySem.W.notFirst]) hs M.fn ?_
    refine wpAny_call (codeAny_mono (F.run X.A X.stack s H ⟨[.ref a, .ref b], []⟩ [.ref a, .ref b] [.ref a, .ref b] _ E0 hr e0 (by
      have := hb s [.ref a, .ref b] I.kIn (by simpa using hl)
      simpa using this) r2 hsp) fun r s' hq => ?_)
    cases r with
    | error e => exact False.elim hq
    | ok fl =>
      cases fl with
      | ret w =>
        obtain ⟨z, H', I', rz, t, ez, ex⟩ := I.after hq
        subst ez
        cases rz
        exact ⟨.bl t, H', I', rfl, ex⟩
      | next => exact False.elim hq
      | brk => exact False.elim hq
      | cont => exact False.elim hq
  cases ne with
  | true =>
    show wpAny (model X.prog X.w) X.A (richCompare .NotEq (.ref a) (.ref b)) (EP X pins σ Q) X.xe s
    exact key M.at_
  | false =>
    show wpAny (model X.prog X.w) X.A (richCompare .Eq (.ref a) (.ref b)) (EP X pins σ Q) X.xe s
    exact key M.at_
def isIns (c : String) : D → Bool
  | .ins c' _ => decide (c' = c)
  | _ => false
def D.bool : D → Option Bool
  | .bl b => some b
  | _ => none
def tCmpI (c : String) (f : Fn) (a b : DE) : DT := fun ρ p => (a ρ p).bind fun x => (b ρ x.2).bind fun y => if isIns c x.1 && isIns c y.1 then (f [x.1, y.1] y.2).bind fun z => z.1.bool.map fun t => (t, z.2) else none
section
variable {X : Cx} {a b : Expr} {fa fb : DE} {pos : Pos}
theorem ins_of {K : PySem.W.Frag} {P : Addr} {F H : Hp} {c : String} {x : D} {v : V} (s : Sub F H) (h : isIns c x = true) (r : Rep1 K P F H x v) : Rep K P F x v ∧ ∃ a dx gs, v = .ref a ∧ H a = some (.ins (He.ga K c) dx gs) := by
  cases x with
  | ins c' fs =>
    have e : c' = c := of_decide_eq_true h
    subst e
    have r : Rep K P F (.ins c' fs) v := r
    refine ⟨r, ?_⟩
    unfold Rep at r
    obtain ⟨a, dx, gs, rfl, h1, _⟩ := r
    exact ⟨a, dx, gs, rfl, s _ _ h1⟩
  | _ => cases h
theorem cmpI_c {K : PySem.W.Frag} {c : String} {f : Fn} {σ : L2.St} {H : Hp} {Q : Bool → Hp → Prop} (h : cT K (tCmpI c f fa fb) σ H Q) : tOp (rInsM K c f) (cB K fa) (cB K fb) σ H (fun v H' => ∃ t, v = .bl t ∧ Q t H') := by
  obtain ⟨P, F0, G0, F, ρ, p, d, p', L, e, k⟩ := h
  simp only [tCmpI, Option.bind_eq_some_iff] at e
  obtain ⟨⟨x, p1⟩, e1, ⟨y, p2⟩, e2, e3⟩ := e
  refine go2 L e1 e2 fun v u F1 H1 s1 q1 r1 r2 => ?_
  split at e3
  · rename_i hc
    rw [Bool.and_eq_true] at hc
    obtain ⟨⟨z, p3⟩, e4, e5⟩ := Option.bind_eq_some_iff.mp e3
    obtain ⟨t, e6, e7⟩ := Option.map_eq_some_iff.mp e5
    simp only [Prod.mk.injEq] at e7
    obtain ⟨rfl, rfl⟩ := e7
    obtain ⟨w1, a, dx, gs, rfl, h1⟩ := ins_of s1.fh hc.1 r1
    obtain ⟨w2, b, dy, hs, rfl, h2⟩ := ins_of s1.fh hc.2 r2
    refine ⟨a, b, dx, gs, dy, hs, rfl, rfl, h1, h2, P, F1, [x, y], p2, z, _, s1.fh, q1, Reps.cons w1 (Reps.cons w2 Reps.nil), rfl, e4, fun v F2 H2 s2 q2 r2 => ?_⟩
    cases z with
    | bl t' =>
      cases e6
      unfold Rep at r2
      subst r2
      exact ⟨_, rfl, _, rfl, k F2 H2 (s1.trans s2 q1.thr) q2⟩
    | _ => cases e6
  · cases e3
theorem insM_mono {K : PySem.W.Frag} {c : String} {f : Fn} {x y : V} {H : Hp} {Q Q' : VK} (h : rInsM K c f x y H Q) (i : ∀ v H', Q v H' → Q' v H') : rInsM K c f x y H Q' := by
  obtain ⟨a, b, dx, gs, dy, hs, e1, e2, h1, h2, P, F, ds, p, d, p', s, q, r, hl, e, k⟩ := h
  exact ⟨a, b, dx, gs, dy, hs, e1, e2, h1, h2, P, F, ds, p, d, p', s, q, r, hl, e, fun v F' H' s q r => let ⟨t, e, z⟩ := k v F' H' s q r; ⟨t, e, i _ _ z⟩⟩
theorem x_tcmpI {k : Nat} {c : String} {ne : Bool} {f : Fn} (h : EqM X k c (eqName ne) f) (hr : Room k X.A) (ha : PE X a (cB X.K fa)) (hb : PE X b (cB X.K fb)) : PT X (.Compare a [eqOp ne] [b] pos) (cT X.K (tCmpI c f fa fb)) :=
  PT.imp (pt_cmpR (op_insM h hr) ha hb (by cases ne <;> exact nomark b)) fun _ _ _ z => cmpI_c z
theorem x_cmpI {k : Nat} {c : String} {ne : Bool} {f : Fn} (h : EqM X k c (eqName ne) f) (hr : Room k X.A) (ha : PE X a (cB X.K fa)) (hb : PE X b (cB X.K fb)) : PE X (.Compare a [eqOp ne] [b] pos) (cE X.K (eT (tCmpI c f fa fb))) :=
  PE.imp (pe_cmpR (op_insM h hr) ha hb (by cases ne <;> exact nomark b)) fun σ H Q z => by
    obtain ⟨P, F0, G0, F, ρ, p, d, p', L, e, k⟩ := z
    simp only [eT, Option.map_eq_some_iff, Prod.mk.injEq, Prod.exists] at e
    obtain ⟨t, _, e1, rfl, rfl⟩ := e
    have z := cmpI_c (K := X.K) (Q := fun t' H' => Q (.bl t') H') ⟨P, F0, G0, F, ρ, p, t, _, L, e1, fun F' H' s q => k _ F' H' s q r_bl⟩
    obtain ⟨P1, F1, G1, F2, ρ1, p1, d1, p2, L1, e2, k2⟩ := z
    refine ⟨P1, F1, G1, F2, ρ1, p1, d1, p2, L1, e2, fun v F' H' s q r => ?_⟩
    obtain ⟨P3, F3, G3, F4, ρ3, p3, d3, p4, L3, e4, k4⟩ := k2 v F' H' s q r
    refine ⟨P3, F3, G3, F4, ρ3, p3, d3, p4, L3, e4, fun u F5 H5 s5 q5 r5 => insM_mono (k4 u F5 H5 s5 q5 r5) ?_⟩
    rintro v H' ⟨t, rfl, z⟩
    exact z
end
end Dn
set_option Elab.async false
set_option linter.all false
set_option maxRecDepth 100000
set_option maxHeartbeats 8000000
/-! Dn D: {x: True for ..}, its length, its keys in order. -/
namespace Dn
open PySem PySem.Spec PyProof.Rows L2

def keyD : D → Option Key
  | .int i => some (.inl i)
  | .str s => some (.inr s)
  | _ => none
def keysD : List D → Option (List Key)
  | [] => some []
  | d :: ds => (keyD d).bind fun k => (keysD ds).map (k :: ·)
def putAll (kvs : List (Key × V)) (ks : List Key) : List (Key × V) := ks.foldl (fun kvs k => putK kvs k (.bl true)) kvs
theorem putAll_snoc (kvs : List (Key × V)) (ks : List Key) (k : Key) : putAll kvs (ks ++ [k]) = putK (putAll kvs ks) k (.bl true) := by simp [putAll]
theorem putAll_len (kvs : List (Key × V)) (ks : List Key) : (putAll kvs ks).length ≤ kvs.length + ks.length := by
  induction ks generalizing kvs with
  | nil => exact Nat.le_refl _
  | cons k ks ih =>
    have := ih (putK kvs k (.bl true))
    have := length_putK kvs k (.bl true)
    simp only [putAll, List.foldl_cons, List.length_cons] at *
    omega
theorem keysD_app : ∀ {a b : List D} {ks : List Key}, keysD (a ++ b) = some ks → ∃ k1 k2, keysD a = some k1 ∧ keysD b = some k2 ∧ ks = k1 ++ k2
  | [], b, ks, h => ⟨[], ks, rfl, h, rfl⟩
  | d :: a, b, ks, h => by
    simp only [List.cons_append, keysD, Option.bind_eq_some_iff, Option.map_eq_some_iff] at h
    obtain ⟨k, e1, r, e2, rfl⟩ := h
    obtain ⟨k1, k2, e3, e4, rfl⟩ := keysD_app e2
    exact ⟨k :: k1, k2, by simp [keysD, e1, e3], e4, rfl⟩
theorem keysD_len : ∀ {a : List D} {ks : List Key}, keysD a = some ks → ks.length = a.length
  | [], ks, h => by
    simp only [keysD, Option.some.injEq] at h
    rw [← h]
    rfl
  | d :: a, ks, h => by
    simp only [keysD, Option.bind_eq_some_iff, Option.map_eq_some_iff] at h
    obtain ⟨k, e1, r, e2, rfl⟩ := h
    simp [keysD_len e2]
theorem key_rep {K : PySem.W.Frag} {P : Addr} {F : Hp} {d : D} {v : V} {k : Key} (r : Rep K P F d v) (e : keyD d = some k) : v = kV k := by
  unfold keyD at e
  split at e
  · cases e
    unfold Rep at r
    exact r
  · cases e
    unfold Rep at r
    exact r
  · cases e
/-- a dict comprehension over a walk -/
theorem dc_it {J : It} {n : Nat} {G : Hp → Prop} {Y : Nat → Hp → V → Hp → Prop} (w : Walk J n G Y) {g : TG} {tt : TT} {tk tv : TE} {vs : List Nat} {σ : L2.St} {H1 : Hp} {D : Addr} {Qd : Hp → Prop} (Pv : Nat → Hp → Prop) (h0 : Pv 0 (upd H1 D (.dK []))) (hG : ∀ i H, i ≤ n → Pv i H → G H)
    (hs : ∀ i x H H', i < n → Pv i H → Y i H x H' → g x (L2.wipe σ vs) H' fun σ2 H2 => L2.wipe σ2 vs = L2.wipe σ vs ∧ tt σ2 H2 fun b H3 =>
      if b = true then tk σ2 H3 fun y H4 => tv σ2 H4 fun z H5 => ∃ kvs k, y = kV k ∧ H5 D = some (.dK kvs) ∧ kvs.length < sizeLine ∧ Pv (i + 1) (upd H5 D (.dK (putK kvs k z))) else Pv (i + 1) H3) (hd : ∀ H, Pv n H → Qd H) :
    ∃ W : Nat → Nat → Hp → Prop, (∃ m, W 0 m (upd H1 D (.dK []))) ∧ ∀ i m H, W i m H →
      (J.stop i H ∧ Qd H) ∨ (J.go i H ∧ ∃ Nx : Hp → Prop, (∀ H', Nx H' → ∃ m', m' < m ∧ W (i + 1) m' H') ∧ ∀ x H', J.yld i H x H' → g x (L2.wipe σ vs) H' fun σ2 H2 => L2.wipe σ2 vs = L2.wipe σ vs ∧ tt σ2 H2 fun b H3 =>
        if b = true then tk σ2 H3 fun y H4 => tv σ2 H4 fun z H5 => ∃ kvs k, y = kV k ∧ H5 D = some (.dK kvs) ∧ kvs.length < sizeLine ∧ Nx (upd H5 D (.dK (putK kvs k z))) else Nx H3) := by
  refine ⟨fun i m H => m = n - i ∧ i ≤ n ∧ Pv i H, ⟨n, by simp, Nat.zero_le _, h0⟩, ?_⟩
  rintro i m H ⟨rfl, hi, p⟩
  have q := hG i H hi p
  by_cases hlt : i < n
  · refine .inr ⟨w.goes i H hlt q, Pv (i + 1), fun H' p' => ⟨n - (i + 1), by omega, rfl, hlt, p'⟩, fun x H' y => hs i x H H' hlt p (w.yields i H x H' hlt q y)⟩
  · have e : i = n := by omega
    subst e
    exact .inl ⟨w.stops H q, hd H p⟩
/-- the reading of such a comprehension -/
theorem dc_c {K : PySem.W.Frag} {vs is : List Nat} {b : DG} {c : DT} {f : DE} {it : DL} {σ : L2.St} {H : Hp} {Q : VK} {P : Addr} {F0 F : Hp} {G0 : Gd} {ρ : Env} {p p' : Pen} {ys : List D} {ks : List Key} (hs : ∀ i ∈ is, i ∈ vs)
    (R : Rel K P F0 G0 F H ρ σ p) (e : lComp vs b c f it ρ p = some (ys, p')) (ek : keysD ys = some ks)
    (k : ∀ D F' H', Step P F H F' H' → PenAt K P F' H' p' → H D = none → F' D = none → H' D = some (.dK (putAll [] ks)) → Q (.ref D) H') : tDc (cI K it) (cG K is b) (cT K c) (cE K f) (tC (.bl true)) vs σ H Q := by
  simp only [lComp, Option.bind_eq_some_iff] at e
  obtain ⟨⟨ds, p1⟩, e1, e2⟩ := e
  split at e2
  · rename_i hz
    have hz : ds.length ≤ sizeLine := hz
    refine ⟨P, F0, G0, F, ρ, p, ds, p1, R, e1, fun J F1 H1 s1 q1 wd => ?_⟩
    intro D hD
    obtain ⟨n, G, Y, w, hn, hG, hY⟩ := wd
    have DP : D ≠ P := fun z => by
      subst z
      exact q1.thr hD
    have S0 : Step P F1 H1 F1 (upd H1 D (.dK [])) := (Ext.loose s1.fh hD).step P
    refine dc_it w (fun i H' => ∃ F' pi kd yd yr, Step P F1 H1 F' H' ∧ PenAt K P F' H' pi ∧ H' D = some (.dK (putAll [] kd)) ∧ F' D = none ∧ keysD yd = some kd ∧ kd.length ≤ i ∧ compGo b c f (wipeE ρ vs) (ds.drop i) pi = some (yr, p') ∧ yd ++ yr = ys)
      ⟨F1, p1, [], [], ys, S0, q1.ext (Ext.loose s1.fh hD), upd_same, s1.fh.no hD, rfl, Nat.le_refl _, by simpa using e2, rfl⟩
      (fun i H' hi ⟨F', pi, kd, yd, yr, st, _⟩ => hG F' H' st.ff st.fh) ?_ ?_
    · rintro i x H2 H3 hi ⟨F2, pi, kd, yd, yr, st, qa, hDa, fD, rr, hl, e3, ey⟩ y
      have hid : i < ds.length := by omega
      obtain ⟨F3, E3, rx⟩ := hY i H2 x H3 F2 ds[i] st.ff st.fh y (by simp [hid])
      rw [List.drop_eq_getElem_cons hid] at e3
      simp only [compGo, Option.bind_eq_some_iff] at e3
      obtain ⟨ρ1, e4, ⟨t, p2⟩, e5, e6⟩ := e3
      have st3 := st.trans (E3.step P) qa.thr
      have qa3 := qa.ext E3
      have RW : Rel K P F0 G0 F3 H3 (wipeE ρ vs) (L2.wipe σ vs) pi := (R.go (s1.trans st3 q1.thr) qa3).wipe vs
      refine ⟨P, F0, G0, F3, wipeE ρ vs, pi, ds[i], ρ1, RW, rx, e4, fun σ2 R2 sm => ⟨?_, ?_⟩⟩
      · exact (wipe_same sm hs).trans wipe_idem
      · refine ⟨P, F0, G0, F3, ρ1, pi, t, p2, R2, e5, fun F4 H4 s4 q4 => ?_⟩
        have hD3 : H3 D = some (.dK (putAll [] kd)) := E3.hh _ _ hDa
        have fD3 : F3 D = none := by
          cases z : F3 D with
          | none => rfl
          | some o =>
            rcases E3.nw _ _ z with z | z
            · rw [fD] at z
              cases z
            · rw [hDa] at z
              cases z
        have hD4 : H4 D = some (.dK (putAll [] kd)) := s4.hh _ _ DP hD3
        have fD4 : F4 D = none := by
          cases z : F4 D with
          | none => rfl
          | some o =>
            rcases s4.nw _ _ z with z | z
            · rw [fD3] at z
              cases z
            · rw [hD3] at z
              cases z
        have st4 := st3.trans s4 qa3.thr
        cases t with
        | false =>
          simp only [Bool.false_eq_true, if_false] at e6 ⊢
          exact ⟨F4, p2, kd, yd, yr, st4, q4, hD4, fD4, rr, by omega, e6, ey⟩
        | true =>
          simp only [if_true, Option.bind_eq_some_iff, Option.map_eq_some_iff, Prod.mk.injEq] at e6 ⊢
          obtain ⟨⟨z, p3⟩, e7, ⟨zs, p4⟩, e8, rfl, rfl⟩ := e6
          have ek2 : keysD ((yd ++ [z]) ++ zs) = some ks := by rw [← ek, ← ey]; simp
          obtain ⟨k1, k2, e9, e10, rfl⟩ := keysD_app ek2
          obtain ⟨k3, k4, e11, e12, rfl⟩ := keysD_app e9
          rw [rr] at e11
          cases e11
          simp only [keysD, Option.bind_eq_some_iff, Option.map_eq_some_iff, Option.some.injEq] at e12
          obtain ⟨kz, e13, r, rfl, rfl⟩ := e12
          refine ⟨P, F0, G0, F4, ρ1, p2, z, p3, R2.go s4 q4, e7, fun u F5 H5 s5 q5 r5 => ?_⟩
          have hD5 : H5 D = some (.dK (putAll [] kd)) := s5.hh _ _ DP hD4
          have fD5 : F5 D = none := by
            cases z : F5 D with
            | none => rfl
            | some o =>
              rcases s5.nw _ _ z with z | z
              · rw [fD4] at z
                cases z
              · rw [hD4] at z
                cases z
          have st5 := st4.trans s5 q4.thr
          have hpl := putAll_len [] kd
          simp only [List.length_nil, Nat.zero_add] at hpl
          refine ⟨putAll [] kd, kz, key_rep r5 e13, hD5, by omega, F5, p3, kd ++ [kz], yd ++ [z], zs, ⟨st5.ff, fun a o na ha => ?_, st5.nw, fun a o ha => ?_⟩, ⟨?_, q5.no⟩, ?_, fD5, e9, by rw [List.length_append, List.length_singleton]; omega, e8, by rw [← ey]; simp⟩
          · have nd : a ≠ D := fun z => by
              rw [z, hD] at ha
              cases ha
            rw [upd_ne nd]
            exact st5.hh _ _ na ha
          · have nd : a ≠ D := fun z => by
              rw [z, fD5] at ha
              cases ha
            rw [upd_ne nd]
            exact s5.fh _ _ ha
          · obtain ⟨L, c1, c2, c3⟩ := q5.at_
            exact ⟨L, by rw [upd_ne (Ne.symm DP)]; exact c1, c2, c3⟩
          · rw [upd_same, putAll_snoc]
    · rintro H2 ⟨F2, pi, kd, yd, yr, st, qa, hDa, fD, rr, hl, e3, ey⟩
      have e4 : ds.drop n = [] := by
        rw [hn]
        simp
      rw [e4] at e3
      simp only [compGo, Option.some.injEq, Prod.mk.injEq] at e3
      obtain ⟨rfl, rfl⟩ := e3
      rw [List.append_nil] at ey
      subst ey
      rw [rr] at ek
      cases ek
      exact k D F2 H2 (s1.trans st q1.thr) qa (s1.back q1.thr hD) fD hDa
  · cases e2
/-- len({x: True for ..}) -/
def eLenD (l : DL) : DE := fun ρ p => (l ρ p).bind fun x => (keysD x.1).map fun ks => (.int (putAll [] ks).length, x.2)
/-- sorted({x: True for ..}) of numbers -/
def intKs : List Key → Option (List Int)
  | [] => some []
  | .inl i :: ks => (intKs ks).map (i :: ·)
  | .inr _ :: _ => none
def lSrtD (l : DL) : DL := fun ρ p => (l ρ p).bind fun x => (keysD x.1).bind fun ks => (intKs ((putAll [] ks).map (·.1))).bind fun is => if is.length < 64 then some ((sortI is).map D.int, x.2) else none
section
variable {X : Cx} {elt tg iter : Expr} {ifs : List Expr} {scope : Scope} {own : List (Str × Nat)} {is : List Nat} {b : DG} {c : DT} {f : DE} {it : DL} {pos dpos pn : Pos} {x : Str} {vp : Pos} {vk : Nat}
theorem x_lenD (hc : X.calm = true) (hN : X.N.Nodup) (hi : PI X tg iter (cI X.K it)) (ok : BlkOk X.N X.env.scope scope own) (hs : ∀ i ∈ is, i ∈ own.map (·.2)) (hn : notSet iter = true)
    (hg : ∀ (s : Shared) (H : Hp) (C : Addr) (cl : List (Str × Addr)) (fp : List Addr), PG (X.blk s H scope (compEnvC scope cl C X.env) fp) tg (cG X.K is b))
    (ht : ∀ (s : Shared) (H : Hp) (C : Addr) (cl : List (Str × Addr)) (fp : List Addr), PTs (X.blk s H scope (compEnvC scope cl C X.env) fp) ifs (cT X.K c))
    (he : ∀ (s : Shared) (H : Hp) (C : Addr) (cl : List (Str × Addr)) (fp : List Addr), PE (X.blk s H scope (compEnvC scope cl C X.env) fp) elt (cE X.K f))
    (hG : Gl X ("len" : Str)) (hm : X.mg ("len" : Str) = none) :
    PE X (.Call (.Name ("len" : Str) pn) [.DictComp elt (.Constant (.bool true) vk vp) [⟨tg, iter, ifs, 0⟩] scope dpos] [] pos) (cE X.K (eLenD (lComp (own.map (·.2)) b c f it))) :=
  PE.imp (pe_callB call_lenD hG hm (by rfl) (pa_cons (pe_dc hc hN hi ok hg ht he (fun _ _ _ _ _ => pe_bl) (folded_plain hn)) pa_nil)) fun σ H Q h => by
    obtain ⟨P, F0, G0, F, ρ, p, d, p', R, e, k⟩ := h
    simp only [eLenD, Option.bind_eq_some_iff, Option.map_eq_some_iff, Prod.mk.injEq] at e
    obtain ⟨⟨ys, p1⟩, e1, ks, e2, rfl, rfl⟩ := e
    show tDc (cI X.K it) (cG X.K is b) (cT X.K c) (cE X.K f) (tC (.bl true)) (own.map (·.2)) σ H fun v H1 => ∃ a kvs, [v] = [V.ref a] ∧ H1 a = some (.dK kvs) ∧ Q (.int kvs.length) H1
    exact dc_c hs R e1 e2 fun D F' H' s q hD fD hD2 => ⟨D, _, rfl, hD2, k _ F' H' s q r_int⟩
theorem intKs_map : ∀ {ks : List Key} {is : List Int}, intKs ks = some is → ks = is.map Sum.inl
  | [], is, h => by
    simp only [intKs, Option.some.injEq] at h
    rw [← h]
    rfl
  | .inl i :: ks, is, h => by
    simp only [intKs, Option.map_eq_some_iff] at h
    obtain ⟨r, e, rfl⟩ := h
    rw [intKs_map e]
    rfl
  | .inr _ :: _, is, h => by cases h
theorem x_srtD (hc : X.calm = true) (hN : X.N.Nodup) (hi : PI X tg iter (cI X.K it)) (ok : BlkOk X.N X.env.scope scope own) (hs : ∀ i ∈ is, i ∈ own.map (·.2)) (hn : notSet iter = true)
    (hg : ∀ (s : Shared) (H : Hp) (C : Addr) (cl : List (Str × Addr)) (fp : List Addr), PG (X.blk s H scope (compEnvC scope cl C X.env) fp) tg (cG X.K is b))
    (ht : ∀ (s : Shared) (H : Hp) (C : Addr) (cl : List (Str × Addr)) (fp : List Addr), PTs (X.blk s H scope (compEnvC scope cl C X.env) fp) ifs (cT X.K c))
    (he : ∀ (s : Shared) (H : Hp) (C : Addr) (cl : List (Str × Addr)) (fp : List Addr), PE (X.blk s H scope (compEnvC scope cl C X.env) fp) elt (cE X.K f))
    (hG : Gl X ("sorted" : Str)) (hm : X.mg ("sorted" : Str) = none) :
    PE X (.Call (.Name ("sorted" : Str) pn) [.DictComp elt (.Constant (.bool true) vk vp) [⟨tg, iter, ifs, 0⟩] scope dpos] [] pos) (cF X.K (lSrtD (lComp (own.map (·.2)) b c f it))) :=
  PE.imp (pe_callB (call_sortedDI hc) hG hm (by rfl) (pa_cons (pe_dc hc hN hi ok hg ht he (fun _ _ _ _ _ => pe_bl) (folded_plain hn)) pa_nil)) fun σ H Q h => by
    obtain ⟨P, F0, G0, F, ρ, p, d, p', R, e, k⟩ := h
    simp only [lSrtD, Option.bind_eq_some_iff] at e
    obtain ⟨⟨ys, p1⟩, e1, ks, e2, ns, e3, e4⟩ := e
    split at e4
    · rename_i h64
      simp only [Option.some.injEq, Prod.mk.injEq] at e4
      obtain ⟨rfl, rfl⟩ := e4
      show tDc (cI X.K it) (cG X.K is b) (cT X.K c) (cE X.K f) (tC (.bl true)) (own.map (·.2)) σ H fun v H1 => ∃ (a : Addr) (kvs : List (Key × V)) (ks : List Int), [v] = [.ref a] ∧ Rd H1 a (.dK kvs) ∧ kvs.map (·.1) = ks.map Sum.inl ∧ ks.length < 64 ∧
        ∀ (ys : List Int) (p : Addr), ys.Perm ks → ys.Pairwise (· ≤ ·) → H1 p = none → Q (.ref p) (upd H1 p (.lst (ys.map V.int)))
      refine dc_c hs R e1 e2 fun D F' H' s q hD fD hD2 => ⟨D, _, ns, rfl, .inl hD2, intKs_map e3, h64, fun us a pm srt ha => ?_⟩
      have hus := sortI_eq pm srt
      subst hus
      have hl : (sortI ns).length = ns.length := pm.length_eq
      refine new_lst s q ?_ Reps.ints k a ha
      rw [List.length_map, hl]
      exact Nat.le_trans (Nat.le_of_lt h64) (by rw [sizeLine_eq]; decide)
    · cases e4
end

/-! max, min of two numbers, of a list of numbers -/
def gMax : List D → Option D
  | [.int i, .int j] => some (.int (if j > i then j else i))
  | [.lst xs] => (intsOf xs).bind fun ns => match ns with
    | [] => none
    | n :: ns => some (.int (ns.foldl max n))
  | _ => none
def gMin : List D → Option D
  | [.int i, .int j] => some (.int (if j < i then j else i))
  | [.lst xs] => (intsOf xs).bind fun ns => match ns with
    | [] => none
    | n :: ns => some (.int (ns.foldl min n))
  | _ => none
theorem foldl_max_spec : ∀ (ns : List Int) (n : Int), ns.foldl max n ∈ n :: ns ∧ ∀ y ∈ n :: ns, y ≤ ns.foldl max n
  | [], n => by simp
  | a :: ns, n => by
    obtain ⟨h1, h2⟩ := foldl_max_spec ns (max n a)
    simp only [List.foldl_cons, List.mem_cons] at *
    constructor
    · rcases h1 with h1 | h1
      · rw [h1]
        by_cases h : n ≤ a
        · rw [Int.max_eq_right h]
          exact .inr (.inl rfl)
        · rw [Int.max_eq_left (by omega)]
          exact .inl rfl
      · exact .inr (.inr h1)
    · have hm := h2 _ (.inl rfl)
      have l1 : n ≤ max n a := Int.le_max_left n a
      have l2 : a ≤ max n a := Int.le_max_right n a
      rintro y (rfl | rfl | hy)
      · omega
      · omega
      · exact h2 y (.inr hy)
theorem foldl_min_spec : ∀ (ns : List Int) (n : Int), ns.foldl min n ∈ n :: ns ∧ ∀ y ∈ n :: ns, ns.foldl min n ≤ y
  | [], n => by simp
  | a :: ns, n => by
    obtain ⟨h1, h2⟩ := foldl_min_spec ns (min n a)
    simp only [List.foldl_cons, List.mem_cons] at *
    constructor
    · rcases h1 with h1 | h1
      · rw [h1]
        by_cases h : n ≤ a
        · rw [Int.min_eq_left h]
          exact .inl rfl
        · rw [Int.min_eq_right (by omega)]
          exact .inr (.inl rfl)
      · exact .inr (.inr h1)
    · have hm := h2 _ (.inl rfl)
      have l1 : min n a ≤ n := Int.min_le_left n a
      have l2 : min n a ≤ a := Int.min_le_right n a
      rintro y (rfl | rfl | hy)
      · omega
      · omega
      · exact h2 y (.inr hy)
section
variable {K : PySem.W.Frag}
abbrev rMaxA (K : PySem.W.Frag) : List V → Hp → VK → Prop := fun xs H Q => (∃ i j, xs = [.int i, .int j] ∧ Q (.int (if j > i then j else i)) H) ∨ rMax K xs H Q
abbrev rMinA (K : PySem.W.Frag) : List V → Hp → VK → Prop := fun xs H Q => (∃ i j, xs = [.int i, .int j] ∧ Q (.int (if j < i then j else i)) H) ∨ rMin K xs H Q
theorem max_D : CallD K (rMaxA K) gMax := by
  intro P F H ds vs d Q p pa s r e k
  unfold gMax at e
  split at e
  · cases e
    obtain ⟨v, u, rfl, r1, r2⟩ := reps1_2 r
    cases d_int r1
    cases d_int r2
    exact .inl ⟨_, _, rfl, k _ F H (Ext.refl s) r_int⟩
  · rename_i xs
    simp only [Option.bind_eq_some_iff] at e
    obtain ⟨ns, e1, e2⟩ := e
    have h := intsOf_eq e1
    subst h
    obtain ⟨v, rfl, r1⟩ := reps1_1 r
    obtain ⟨a, us, rfl, q, z, t⟩ := d_lst r1
    have h := Reps.ints_inv t
    subst h
    cases ns with
    | nil => cases e2
    | cons n ns =>
      cases e2
      obtain ⟨h1, h2⟩ := foldl_max_spec ns n
      refine .inr ⟨a, n :: ns, rfl, q, by simp, fun m hm hle => ?_⟩
      have : m = ns.foldl max n := Int.le_antisymm (h2 m hm) (hle _ h1)
      rw [this]
      exact k _ F H (Ext.refl s) r_int
  · cases e
theorem min_D : CallD K (rMinA K) gMin := by
  intro P F H ds vs d Q p pa s r e k
  unfold gMin at e
  split at e
  · cases e
    obtain ⟨v, u, rfl, r1, r2⟩ := reps1_2 r
    cases d_int r1
    cases d_int r2
    exact .inl ⟨_, _, rfl, k _ F H (Ext.refl s) r_int⟩
  · rename_i xs
    simp only [Option.bind_eq_some_iff] at e
    obtain ⟨ns, e1, e2⟩ := e
    have h := intsOf_eq e1
    subst h
    obtain ⟨v, rfl, r1⟩ := reps1_1 r
    obtain ⟨a, us, rfl, q, z, t⟩ := d_lst r1
    have h := Reps.ints_inv t
    subst h
    cases ns with
    | nil => cases e2
    | cons n ns =>
      cases e2
      obtain ⟨h1, h2⟩ := foldl_min_spec ns n
      refine .inr ⟨a, n :: ns, rfl, q, by simp, fun m hm hle => ?_⟩
      have : m = ns.foldl min n := Int.le_antisymm (hle _ h1) (h2 m hm)
      rw [this]
      exact k _ F H (Ext.refl s) r_int
  · cases e
end
end Dn
set_option Elab.async false
set_option linter.all false
set_option maxRecDepth 100000
set_option maxHeartbeats 4000000
/-! Dn 9: the certificate of a translation, its meaning, its check. -/
namespace Dn
open PySem PySem.Spec PyProof.Rows L2

/-! ### operators -/
def gOp : Operator → D → D → Option D
  | .Add => gAdd
  | .Sub => gSub
  | .Mult => gMul
  | .FloorDiv => gDiv
  | .Mod => gMod
  | .Pow => gPow
  | .LShift => gShl
  | .RShift => gShr
  | _ => fun _ _ => none
def gCmp : CmpOp → D → D → Option Bool
  | .Lt => gLt
  | .LtE => gLe
  | .Gt => gGt
  | .GtE => gGe
  | .Eq => gEq
  | .NotEq => gNe
  | .In => gIn
  | .NotIn => gNotIn
  | .Is => gIs
  | .IsNot => gIsNot
theorem op_never {X : Cx} {f : Value → Value → Sem Value} : OpR X f (fun _ _ _ _ => False) := fun _ _ _ _ _ _ _ _ _ _ _ _ h => h.elim
theorem op_all {X : Cx} (hr : Room 0 X.A) (op : Operator) : ∃ r, OpR X (binaryOp op) r ∧ OpD X.K r (gOp op) := by
  cases op with
  | Add => exact ⟨_, add_R, add_D⟩
  | Sub => exact ⟨_, op_sub, sub_D⟩
  | Mult => exact ⟨_, mul_R, mul_D⟩
  | FloorDiv => exact ⟨_, op_fdivN, div_D⟩
  | Mod => exact ⟨_, op_modN, mod_D⟩
  | Pow => exact ⟨_, op_pow, pow_D⟩
  | LShift => exact ⟨_, op_shl, shl_D⟩
  | RShift => exact ⟨_, op_shr, shr_D⟩
  | _ => exact ⟨_, op_never, fun _ _ _ _ _ _ _ _ _ _ _ _ _ _ e => by cases e⟩
theorem cmp_all {X : Cx} (hr : Room 0 X.A) (op : CmpOp) : ∃ r, OpR X (compareOp op) r ∧ OpB X.K r (gCmp op) := by
  cases op with
  | Lt => exact ⟨_, lt_R hr, lt_B⟩
  | LtE => exact ⟨_, op_le, le_B⟩
  | Gt => exact ⟨_, op_gt, gt_B⟩
  | GtE => exact ⟨_, op_ge, ge_B⟩
  | Eq => exact ⟨_, op_eqD (by have := Room.u65 hr; omega), eq_B⟩
  | NotEq => exact ⟨_, op_neD (by have := Room.u65 hr; omega), ne_B⟩
  | In => exact ⟨_, in_R hr, in_B⟩
  | NotIn => exact ⟨_, notin_R hr, notin_B⟩
  | Is => exact ⟨_, is_R, is_B⟩
  | IsNot => exact ⟨_, isnot_R, isnot_B⟩
def gNeg : D → Option D
  | .int i => some (.int (-i))
  | _ => none
theorem x_neg {X : Cx} {a : Expr} {fa : DE} {pos : Pos} (ha : PE X a (cB X.K fa)) : PE X (.UnaryOp .USub a pos) (cE X.K (eUn gNeg fa)) :=
  PE.imp (pe_un un_neg ha) fun σ H Q ⟨P, F0, G0, F, ρ, p, d, p', R, e, k⟩ => by
    simp only [eUn, Option.bind_eq_some_iff, Option.map_eq_some_iff, Prod.mk.injEq] at e
    obtain ⟨⟨x, p1⟩, e1, d', e2, rfl, rfl⟩ := e
    refine ⟨P, F0, G0, F, ρ, p, x, p1, R, e1, fun v F1 H1 s1 q1 r1 => ?_⟩
    cases x with
    | int i =>
      cases d_int r1
      cases e2
      exact ⟨i, rfl, k _ F1 H1 s1 q1 r_int⟩
    | _ => cases e2

/-! ### built-ins -/
inductive BE where
  | len | tup | int | abs | str | all | any | sum | max | min
  deriving DecidableEq
def BE.name : BE → String
  | .len => "len" | .tup => "tuple" | .int => "int" | .abs => "abs" | .str => "str" | .all => "all" | .any => "any" | .sum => "sum" | .max => "max" | .min => "min"
def BE.g : BE → List D → Option D
  | .len => g1 gLen | .tup => g1 gTup | .int => g1 gInt | .abs => g1 gAbs | .str => g1 gStr | .all => g1 gAll | .any => g1 gAny | .sum => g1 gSum | .max => gMax | .min => gMin
inductive BL where
  | list | sorted
  deriving DecidableEq
def BL.name : BL → String
  | .list => "list" | .sorted => "sorted"
def BL.g : BL → List D → Option (List D)
  | .list => h1 D.its | .sorted => h1 gSorted
def glC (S : Sc) (x : Str) : Bool := match S.sc.names.lookup x with
  | some .globalImplicit => !(x == ("__debug__" : Str))
  | _ => false
theorem gl_of {T : Tab} {k : Nat} {N : List Str} {S : Sc} {X : Cx} {x : Str} (h : XOk T k N S X) (g : glC S x = true) : Gl X x ∧ (x == ("__debug__" : Str)) = false := by
  unfold glC at g
  unfold Gl Env.kindOf
  rw [h.sc]
  split at g
  · rename_i e
    exact ⟨e, by simpa using g⟩
  · cases g
theorem bE_ok {T : Tab} {k : Nat} {N : List Str} {S : Sc} {X : Cx} {e : Expr} {es : List Expr} {l : DL} {pn pos : Pos} (b : BE) (h : XOk T k N S X) (g : Gl X (b.name : Str)) (ha : PA X (e :: es) (cAB X.K l)) (n : (e :: es).all notStar = true) :
    PE X (.Call (.Name (b.name : Str) pn) (e :: es) [] pos) (cE X.K (eCall b.g l)) := by
  cases b with
  | len => exact x_callB call_len len_D g (h.free "len" (by decide)) (by decide +kernel) ha (by decide) (by decide +kernel) n
  | tup => exact x_callT call_tuple_ofZ tupof_D g (h.free "tuple" (by decide)) (by decide +kernel) ha (by decide) (by decide +kernel) n
  | int => exact x_callT call_int1 int_D g (h.free "int" (by decide)) (by decide +kernel) ha (by decide) (by decide +kernel) n
  | abs => exact x_callB call_abs abs_D g (h.free "abs" (by decide)) (by decide +kernel) ha (by decide) (by decide +kernel) n
  | str => exact x_callT call_str_int str_D g (h.free "str" (by decide)) (by decide +kernel) ha (by decide) (by decide +kernel) n
  | all => exact x_callB (cr_all h.calm) all_D g (h.free "all" (by decide)) (by decide +kernel) ha (by decide) (by decide +kernel) n
  | any => exact x_callB (cr_any h.calm) any_D g (h.free "any" (by decide)) (by decide +kernel) ha (by decide) (by decide +kernel) n
  | sum => exact x_callB (cr_sum h.calm) sum_D g (h.free "sum" (by decide)) (by decide +kernel) ha (by decide) (by decide +kernel) n
  | max => exact x_callB (CallR.or (call_max2 h.calm) (cr_max h.calm)) max_D g (h.free "max" (by decide)) (by decide +kernel) ha (by decide) (by decide +kernel) n
  | min => exact x_callB (CallR.or (call_min2 h.calm) (cr_min h.calm)) min_D g (h.free "min" (by decide)) (by decide +kernel) ha (by decide) (by decide +kernel) n
theorem bL_ok {T : Tab} {k : Nat} {N : List Str} {S : Sc} {X : Cx} {e : Expr} {es : List Expr} {l : DL} {pn pos : Pos} (b : BL) (h : XOk T k N S X) (g : Gl X (b.name : Str)) (ha : PA X (e :: es) (cAB X.K l)) (n : (e :: es).all notStar = true) :
    PE X (.Call (.Name (b.name : Str) pn) (e :: es) [] pos) (cF X.K (lCall b.g l)) := by
  cases b with
  | list => exact x_callTL call_list_of listof_L g (h.free "list" (by decide)) (by decide +kernel) ha (by decide) (by decide +kernel) n
  | sorted => exact x_callBL cr_sortedI sorted_L g (h.free "sorted" (by decide)) (by decide +kernel) ha (by decide) (by decide +kernel) n

/-! ### names -/
def visC (S : Sc) (x : Str) : Bool := match S.sc.names.lookup x with
  | some .local => true
  | some .cell => true
  | some .free => true
  | _ => false
def varC (N : List Str) (S : Sc) (i : Nat) (x : Str) : Bool := decide (N[i]? = some x) && visC S x && !(x == ("__debug__" : Str)) && !(x == ("__classdict__" : Str))
def storeC (N : List Str) (S : Sc) (i : Nat) (x : Str) : Bool := decide (N[i]? = some x) && (match S.sc.names.lookup x with
  | some .local => true
  | some .cell => decide (S.raw.names.lookup x = some .cell)
  | _ => false)
section
variable {T : Tab} {k : Nat} {N : List Str} {S : Sc} {X : Cx} {x : Str} {i : Nat}
theorem var_of (h : XOk T k N S X) (g : varC N S i x = true) : X.N[i]? = some x ∧ Vis X.env.scope x ∧ (x == ("__debug__" : Str)) = false ∧ (x == ("__classdict__" : Str)) = false := by
  unfold varC at g
  simp only [Bool.and_eq_true, decide_eq_true_eq, Bool.not_eq_true'] at g
  obtain ⟨⟨⟨g1, g2⟩, g3⟩, g4⟩ := g
  refine ⟨by rw [h.na]; exact g1, ?_, g3, g4⟩
  unfold visC at g2
  unfold Vis
  rw [h.sc]
  split at g2 <;> first | exact .inl (by assumption) | exact .inr (.inl (by assumption)) | exact .inr (.inr (by assumption)) | cases g2
theorem store_of (h : XOk T k N S X) (g : storeC N S i x = true) : X.N[i]? = some x ∧ L2.Loc X.env.scope x ∧ (X.fn x = true ∨ X.env.scope.names.lookup x = some .local) := by
  unfold storeC at g
  simp only [Bool.and_eq_true, decide_eq_true_eq] at g
  obtain ⟨g1, g2⟩ := g
  refine ⟨by rw [h.na]; exact g1, ?_⟩
  unfold L2.Loc
  rw [h.sc]
  split at g2
  · rename_i e
    exact ⟨.inl e, .inr e⟩
  · rename_i e
    exact ⟨.inr e, .inl (h.fn x (of_decide_eq_true g2))⟩
  · cases g2
theorem nod (h : XOk T k N S X) : X.N.Nodup := by
  rw [h.na]
  exact h.nd
theorem room0 (h : XOk T k N S X) : Room 0 X.A := h.room.mono (Nat.zero_le _)
end

/-! ### classes -/
def tyNames : List String := ["int", "bool", "str", "list", "tuple"]
def clsC (T : Tab) (S : Sc) : Cl → Expr → Bool
  | .ty n, .Name x _ => decide (x = (n : Str)) && tyNames.contains n && glC S x
  | .own c, .Name x _ => decide (x = (c : Str)) && T.cls.contains c && glC S x
  | _, _ => false
def clsL (T : Tab) (S : Sc) : List Cl → List Expr → Bool
  | [], [] => true
  | c :: cs, e :: es => clsC T S c e && clsL T S cs es
  | _, _ => false
section
variable {T : Tab} {k : Nat} {N : List Str} {S : Sc} {X : Cx}
theorem ty_boot : ∀ n ∈ tyNames, bootBuiltins (n : Str) = some (.type n) ∧ (n : Str) ≠ ("__name__" : Str) ∧ n ∈ freeNames ∧ baseTys.contains n = true := by
  intro n hn
  simp only [tyNames, List.mem_cons, List.not_mem_nil, or_false] at hn
  rcases hn with rfl | rfl | rfl | rfl | rfl <;> exact ⟨by decide +kernel, by decide +kernel, by decide, by decide⟩
theorem cls_of (h : XOk T k N S X) {c : Cl} {e : Expr} (g : clsC T S c e = true) : ∃ t, PE X e (tC t) ∧ ClsV t (c.v X.K) ∧ clOk T.cls c = true ∧ notStar e = true := by
  unfold clsC at g
  split at g
  · simp only [Bool.and_eq_true, decide_eq_true_eq] at g
    obtain ⟨⟨rfl, g2⟩, g3⟩ := g
    obtain ⟨b1, b2, b3, b4⟩ := ty_boot _ (List.contains_iff_mem.mp g2)
    obtain ⟨q1, q2⟩ := gl_of h g3
    exact ⟨.ty _, pe_bltn q1 (h.free _ b3) b1 rfl b2 q2, .ty _, b4, rfl⟩
  · simp only [Bool.and_eq_true, decide_eq_true_eq] at g
    obtain ⟨⟨rfl, g2⟩, g3⟩ := g
    obtain ⟨q1, q2⟩ := gl_of h g3
    exact ⟨.ref _, pe_glob q1 (h.cls _ (List.contains_iff_mem.mp g2)) rfl q2, .own _, g2, rfl⟩
  · cases g
theorem clsL_of (h : XOk T k N S X) : ∀ {cs : List Cl} {es : List Expr}, clsL T S cs es = true → ∃ ts, PA X es (fun _ H Q => Q ts H) ∧ Paired ClsV ts (cs.map (Cl.v X.K)) ∧ cs.all (clOk T.cls) = true
  | [], [], _ => ⟨[], pa_nil, .nil, rfl⟩
  | c :: cs, e :: es, g => by
    unfold clsL at g
    rw [Bool.and_eq_true] at g
    obtain ⟨t, h1, h2, h3, h4⟩ := cls_of h g.1
    obtain ⟨ts, k1, k2, k3⟩ := clsL_of h g.2
    refine ⟨t :: ts, pa_cons h1 k1 (star_plain h4), .cons h2 k2, ?_⟩
    rw [List.all_cons, h3, k3]
    rfl
  | [], _ :: _, g => by cases g
  | _ :: _, [], g => by cases g
end

/-! ### targets -/
mutual
inductive G where
  | nm (i : Nat)
  | tup (gs : Gs)
inductive Gs where
  | nil
  | cons (g : G) (gs : Gs)
end
mutual
def G.slots : G → List Nat
  | .nm i => [i]
  | .tup gs => gs.slots
def Gs.slots : Gs → List Nat
  | .nil => []
  | .cons g gs => g.slots ++ gs.slots
end
mutual
def denG : G → DG
  | .nm i => bNm i
  | .tup gs => bTup gs.len (denGs gs)
def denGs : Gs → DGs
  | .nil => bNil
  | .cons g gs => bCons (denG g) (denGs gs)
def Gs.len : Gs → Nat
  | .nil => 0
  | .cons _ gs => gs.len + 1
end
mutual
def okG (N : List Str) (S : Sc) : G → Expr → Bool
  | .nm i, e => match e with
    | .Name x _ => storeC N S i x
    | _ => false
  | .tup gs, e => match e with
    | .Tuple es _ _ => okGs N S gs es && es.all notStar
    | _ => false
def okGs (N : List Str) (S : Sc) : Gs → List Expr → Bool
  | .nil, es => es.isEmpty
  | .cons g gs, es => match es with
    | e :: es => okG N S g e && notStar e && okGs N S gs es
    | [] => false
end
section
variable {T : Tab} {k : Nat} {N : List Str} {S : Sc} {X : Cx}
mutual
theorem g_ok (h : XOk T k N S X) : ∀ (g : G) (e : Expr), okG N S g e = true → PG X e (cG X.K g.slots (denG g))
  | .nm i, e, c => by
    unfold okG at c
    split at c
    · obtain ⟨h1, h2, h3⟩ := store_of h c
      unfold G.slots denG
      exact xg_name (nod h) h1 h2 h3
    · cases c
  | .tup gs, e, c => by
    unfold okG at c
    split at c
    · rw [Bool.and_eq_true] at c
      obtain ⟨c1, c2⟩ := c
      obtain ⟨r, hl⟩ := gs_ok h gs _ c1
      unfold G.slots denG
      rw [← hl]
      exact xg_tup h.calm r c2
    · cases c
theorem gs_ok (h : XOk T k N S X) : ∀ (gs : Gs) (es : List Expr), okGs N S gs es = true → PGs X es (cGs X.K gs.slots (denGs gs)) ∧ es.length = gs.len
  | .nil, es, c => by
    unfold okGs at c
    cases es with
    | nil => 
      unfold Gs.slots denGs Gs.len
      exact ⟨xg_nil, rfl⟩
    | cons _ _ => cases c
  | .cons g gs, es, c => by
    unfold okGs at c
    split at c
    · simp only [Bool.and_eq_true] at c
      obtain ⟨⟨c1, c2⟩, c3⟩ := c
      obtain ⟨r, hl⟩ := gs_ok h gs _ c3
      unfold Gs.slots denGs Gs.len
      exact ⟨xg_cons (g_ok h g _ c1) r c2, by rw [List.length_cons, hl]⟩
    · cases c
end
end
end Dn
set_option Elab.async false
set_option linter.all false
set_option maxRecDepth 100000
set_option maxHeartbeats 8000000
/-! Dn Q: certificates of expressions. -/
namespace Dn
open PySem PySem.Spec PyProof.Rows L2

inductive Q where
  | non | bl (b : Bool) | int (i : Int) | str (x : Str) | con (j : Nat)
  | var (i : Nat) | vb (i : Nat)
  | bin (op : Operator) (a b : Q) | neg (a : Q) | cmpE (op : CmpOp) (a b : Q) | notE (a : Q) | andE (a b : Q) | orE (a b : Q) | oneE (a : Q) | iteE (c a b : Q)
  | ix (a b : Q) | sl (a lo hi : Q) | fld (f : String) (a : Q) | isi (many : Bool) (cs : List Cl) (a : Q)
  | tup (l : Q) | bi (b : BE) (l : Q) | fn (j : Nat) (l : Q) | mk (j : Nat) (l : Q) | idx (o l : Q) | lstE (l : Q) | pen (i : Nat) (k : PK) | join (a b : Q) | chnE (op op' : CmpOp) (a b c : Q) | insE (j : Nat) (a b : Q) | insT (j : Nat) (a b : Q)
  | cmp (op : CmpOp) (a b : Q) | chn (op op' : CmpOp) (a b c : Q) | tru (a : Q) | notT (t : Q) | oneT (t : Q) | andT (t w : Q) | orT (t w : Q) | iteT (c t u : Q)
  | nil | cons (a l : Q) | star (a l : Q)
  | comp (vs : List Nat) (tg : G) (cnd elt it : Q) | yes
  | lenD (vs : List Nat) (tg : G) (cnd elt it : Q) | srtD (vs : List Nat) (tg : G) (cnd elt it : Q)
  | disp (l : Q) | bil (b : BL) (l : Q) | slF (a lo hi : Q) | cat (a b : Q) | rep (a b : Q) | rev (a : Q) | rng1F (a : Q) | rng2F (a b : Q) | iteF (c a b : Q)
  | seqI (a : Q) | rng1 (a : Q) | rng2 (l : Q) | enu (l : Q) | zip (l : Q)
  | noO | soO (a : Q)

mutual
def denE (T : Tab) : Q → DE
  | .non => eC .non
  | .bl b => eC (.bl b)
  | .int i => eC (.int i)
  | .str x => eC (.str x)
  | .con j => match T.cons[j]? with
    | some q => eC q.2
    | none => fun _ _ => none
  | .var i => eVar i
  | .vb i => eVb i
  | .bin op a b => eBin (gOp op) (denE T a) (denE T b)
  | .neg a => eUn gNeg (denE T a)
  | .cmpE op a b => eT (tCmp (gCmp op) (denE T a) (denE T b))
  | .notE a => eT (tNot (tE (denE T a)))
  | .andE a b => eAnd (denE T a) (denE T b)
  | .orE a b => eOr (denE T a) (denE T b)
  | .oneE a => denE T a
  | .iteE c a b => eIf (denT T c) (denE T a) (denE T b)
  | .ix a b => eBin gIx (denE T a) (denE T b)
  | .sl a lo hi => eSl (denE T a) (denO T lo) (denO T hi)
  | .fld f a => eUn (gFld f) (denE T a)
  | .isi _ cs a => eUn (gIsi T.cls cs) (denE T a)
  | .tup l => eTup (denL T l)
  | .bi b l => eCall b.g (denL T l)
  | .fn j l => match T.fns[j]? with
    | some q => eFn q.2.1 q.2.2 (denL T l)
    | none => fun _ _ => none
  | .mk j l => match T.mks[j]? with
    | some q => eMk q.1 q.2.1 q.2.2.1 q.2.2.2 (denL T l)
    | none => fun _ _ => none
  | .idx o l => eMz gIndex (denE T o) (denL T l)
  | .lstE l => eLst (denF T l)
  | .lenD vs tg cnd elt it => eLenD (lComp vs (denG tg) (denT T cnd) (denE T elt) (denI T it))
  | .pen i k => ePen i k
  | .insE j a b => (match T.eqs[j]? with
    | some q => eT (tCmpI q.1 q.2.2 (denE T a) (denE T b))
    | none => fun _ _ => none)
  | .join a b => eBin gJoin (denE T a) (denE T b)
  | .chnE op op' a b c => eT (tChn (gCmp op) (gCmp op') (denE T a) (denE T b) (denE T c))
  | _ => fun _ _ => none
def denT (T : Tab) : Q → DT
  | .cmp op a b => tCmp (gCmp op) (denE T a) (denE T b)
  | .chn op op' a b c => tChn (gCmp op) (gCmp op') (denE T a) (denE T b) (denE T c)
  | .tru a => tE (denE T a)
  | .notT t => tNot (denT T t)
  | .oneT t => denT T t
  | .andT t w => tAnd (denT T t) (denT T w)
  | .orT t w => tOr (denT T t) (denT T w)
  | .iteT c t u => tIf (denT T c) (denT T t) (denT T u)
  | .yes => tYes
  | .insT j a b => (match T.eqs[j]? with
    | some q => tCmpI q.1 q.2.2 (denE T a) (denE T b)
    | none => fun _ _ => none)
  | _ => fun _ _ => none
def denL (T : Tab) : Q → DL
  | .nil => lNil
  | .cons a l => lCons (denE T a) (denL T l)
  | .star a l => lStar (denE T a) (denL T l)
  | _ => fun _ _ => none
def denF (T : Tab) : Q → DL
  | .comp vs tg cnd elt it => lComp vs (denG tg) (denT T cnd) (denE T elt) (denI T it)
  | .srtD vs tg cnd elt it => lSrtD (lComp vs (denG tg) (denT T cnd) (denE T elt) (denI T it))
  | .disp l => lDisp (denL T l)
  | .bil b l => lCall b.g (denL T l)
  | .slF a lo hi => lSl (denE T a) (denO T lo) (denO T hi)
  | .cat a b => lCat (denE T a) (denE T b)
  | .rep a b => lRep (denE T a) (denE T b)
  | .rev a => lRev (denE T a)
  | .rng1F a => lRng1 (denE T a)
  | .rng2F a b => lRng2 (denE T a) (denE T b)
  | .iteF c a b => lIf (denT T c) (denF T a) (denF T b)
  | _ => fun _ _ => none
def denI (T : Tab) : Q → DL
  | .seqI a => iSeq (denE T a)
  | .rng1 a => iRng1 (denE T a)
  | .rng2 l => iRng2 (denL T l)
  | .enu l => iEnu (denL T l)
  | .zip l => iZp (denL T l)
  | _ => fun _ _ => none
def denO (T : Tab) : Q → DO
  | .noO => oNo
  | .soO a => oSo (denE T a)
  | _ => fun _ _ => none
end

def ownOf (N : List Str) (scope : Scope) : List (Str × Nat) := scope.names.filterMap fun y => match y.2 with
  | .local => (N.idxOf? y.1).map fun i => (y.1, i)
  | .cell => (N.idxOf? y.1).map fun i => (y.1, i)
  | _ => none
def plainT : Expr → Bool
  | .UnaryOp .Not _ _ => false
  | .BoolOp _ _ _ => false
  | .IfExp _ _ _ _ => false
  | .Compare _ _ _ _ => false
  | _ => true
theorem plain_true {e : Expr} {env : PySem.Env} (h : plainT e = true) : ∀ whole, isTrue e env whole = (do let v ← whole; standAt e.pos; holding [v] (truthy v)) := by
  intro whole
  cases e with
  | UnaryOp op a p =>
    cases op with
    | Not => cases h
    | _ => unfold PySem.isTrue; rfl
  | BoolOp _ _ _ => cases h
  | IfExp _ _ _ _ => cases h
  | Compare _ _ _ _ => cases h
  | _ => unfold PySem.isTrue; rfl
def inSc (S : Sc) (scope : Scope) : Sc := ⟨relS scope S.sc, scope⟩
def nameIs (S : Sc) (n : String) (x : Str) : Bool := decide (x = (n : Str)) && glC S x

mutual
def okE (T : Tab) (N : List Str) (lk : Bool) : Q → Sc → Expr → Bool
  | .non, _, e => match e with
    | .Constant .none _ _ => true
    | _ => false
  | .bl b, _, e => match e with
    | .Constant (.bool c) _ _ => decide (b = c)
    | _ => false
  | .int i, _, e => match e with
    | .Constant (.int j) _ _ => decide (i = j)
    | _ => false
  | .str x, _, e => match e with
    | .Constant (.str y) _ _ => decide (x = y)
    | _ => false
  | .con j, S, e => match e with
    | .Name x _ => (match T.cons[j]? with
      | some q => nameIs S q.1 x
      | none => false)
    | _ => false
  | .var i, S, e => match e with
    | .Name x _ => varC N S i x
    | _ => false
  | .vb i, S, e => lk && match e with
    | .Name x _ => varC N S i x
    | _ => false
  | .bin op a b, S, e => match e with
    | .BinOp ea op' eb _ => decide (op = op') && okE T N true a S ea && okE T N true b S eb
    | _ => false
  | .neg a, S, e => match e with
    | .UnaryOp .USub ea _ => okE T N true a S ea
    | _ => false
  | .cmpE op a b, S, e => match e with
    | .Compare ea [op'] [eb] _ => decide (op = op') && okE T N true a S ea && okE T N true b S eb && !behindInMarks op' eb
    | _ => false
  | .notE a, S, e => match e with
    | .UnaryOp .Not ea _ => okE T N true a S ea
    | _ => false
  | .andE a b, S, e => match e with
    | .BoolOp .And (ea :: eb :: rest) pos => okE T N false a S ea && okE T N false b S (.BoolOp .And (eb :: rest) pos)
    | _ => false
  | .orE a b, S, e => match e with
    | .BoolOp .Or (ea :: eb :: rest) pos => okE T N false a S ea && okE T N false b S (.BoolOp .Or (eb :: rest) pos)
    | _ => false
  | .oneE a, S, e => match e with
    | .BoolOp _ [ea] _ => okE T N false a S ea
    | _ => false
  | .iteE c a b, S, e => match e with
    | .IfExp ec ea eb _ => okT T N c S ec && okE T N false a S ea && okE T N false b S eb
    | _ => false
  | .ix a b, S, e => match e with
    | .Subscript ea eb _ => notSlice eb && okE T N true a S ea && okE T N true b S eb
    | _ => false
  | .sl a lo hi, S, e => match e with
    | .Subscript ea (.Slice l h none _) _ => okE T N true a S ea && okO T N lo S l && okO T N hi S h
    | _ => false
  | .fld f a, S, e => match e with
    | .Attribute ea g _ => attrOk ea && decide (g = (f : Str)) && okE T N true a S ea
    | _ => false
  | .isi many cs a, S, e => match e with
    | .Call (.Name x _) [ea, eb] [] _ => nameIs S "isinstance" x && notStar ea && okE T N true a S ea && (match many with
      | false => (match cs with
        | [c] => clsC T S c eb
        | _ => false)
      | true => (match eb with
        | .Tuple es _ _ => clsL T S cs es && decide (cs.length ≤ 100)
        | _ => false))
    | _ => false
  | .tup l, S, e => match e with
    | .Tuple es _ _ => okA T N false l S es
    | _ => false
  | .bi b l, S, e => match e with
    | .Call (.Name x _) (ea :: es) [] _ => nameIs S b.name x && okA T N true l S (ea :: es) && (ea :: es).all notStar
    | _ => false
  | .fn j l, S, e => match e with
    | .Call (.Name x _) es [] _ => (match T.fns[j]? with
      | some q => nameIs S q.1 x && okA T N false l S es && es.all notStar
      | none => false)
    | _ => false
  | .mk j l, S, e => match e with
    | .Call (.Name x _) (ea :: es) [] _ => (match T.mks[j]? with
      | some q => nameIs S q.1 x && okA T N false l S (ea :: es) && (ea :: es).all notStar
      | none => false)
    | _ => false
  | .idx o l, S, e => match e with
    | .Call (.Attribute eo name apos) [ea] [] cpos => decide (name = ("index" : Str)) && attrOk eo && okE T N true o S eo && okA T N true l S [ea] && notStar ea && (apos.endLine == cpos.line)
    | _ => false
  | .lstE l, S, e => okF T N l S e
  | .lenD vs tg cnd elt it, S, e => match e with
    | .Call (.Name x _) [.DictComp eelt (.Constant (.bool true) _ _) [⟨etg, eit, eifs, asy⟩] scope _] [] _ => nameIs S "len" x && (decide (asy = 0) && blkC N S.sc scope (ownOf N scope) && decide ((ownOf N scope).map (·.2) = vs) && tg.slots.all vs.contains && notSet eit
        && okI T N it S etg eit && okG N (inSc S scope) tg etg && (match eifs with
          | [] => (match cnd with
            | .yes => true
            | _ => false)
          | [ec] => okT T N cnd (inSc S scope) ec
          | _ => false) && okE T N false elt (inSc S scope) eelt)
    | _ => false
  | .insE j a b, S, e => match e with
    | .Compare ea [op'] [eb] _ => (match T.eqs[j]? with
      | some q => decide (eqOp q.2.1 = op') && okE T N true a S ea && okE T N true b S eb
      | none => false)
    | _ => false
  | .pen i k, S, e => match e with
    | .Subscript (.Name x _) (.Constant (.str ks) _ _) _ => varC N S i x && decide (ks = (k.key : Str))
    | _ => false
  | .join a b, S, e => match e with
    | .Call (.Attribute eo name apos) [ea] [] cpos => decide (name = ("join" : Str)) && attrOk eo && okE T N true a S eo && okE T N true b S ea && notStar ea && (apos.endLine == cpos.line)
    | _ => false
  | .chnE op op2 a b c, S, e => match e with
    | .Compare ea [op', op2'] [eb, ec] _ => decide (op = op') && decide (op2 = op2') && okE T N true a S ea && okE T N true b S eb && okE T N true c S ec && !lastMarks [op', op2'] [eb, ec]
    | _ => false
  | _, _, _ => false
def okT (T : Tab) (N : List Str) : Q → Sc → Expr → Bool
  | .cmp op a b, S, e => match e with
    | .Compare ea [op'] [eb] _ => decide (op = op') && okE T N true a S ea && okE T N true b S eb && !behindInMarks op' eb
    | _ => false
  | .chn op op2 a b c, S, e => match e with
    | .Compare ea [op', op2'] [eb, ec] _ => decide (op = op') && decide (op2 = op2') && okE T N true a S ea && okE T N true b S eb && okE T N true c S ec && !lastMarks [op', op2'] [eb, ec]
    | _ => false
  | .insT j a b, S, e => match e with
    | .Compare ea [op'] [eb] _ => (match T.eqs[j]? with
      | some q => decide (eqOp q.2.1 = op') && okE T N true a S ea && okE T N true b S eb
      | none => false)
    | _ => false
  | .tru a, S, e => plainT e && okE T N true a S e
  | .notT t, S, e => match e with
    | .UnaryOp .Not ea _ => okT T N t S ea
    | _ => false
  | .oneT t, S, e => match e with
    | .BoolOp _ [ea] _ => okT T N t S ea
    | _ => false
  | .andT t w, S, e => match e with
    | .BoolOp .And (ea :: eb :: rest) pos => okT T N t S ea && okW T N w S (.BoolOp .And (eb :: rest) pos)
    | _ => false
  | .orT t w, S, e => match e with
    | .BoolOp .Or (ea :: eb :: rest) pos => okT T N t S ea && okW T N w S (.BoolOp .Or (eb :: rest) pos)
    | _ => false
  | .iteT c t u, S, e => match e with
    | .IfExp ec ea eb _ => okT T N c S ec && okT T N t S ea && okT T N u S eb
    | _ => false
  | _, _, _ => false
def okW (T : Tab) (N : List Str) : Q → Sc → Expr → Bool
  | .oneT t, S, e => match e with
    | .BoolOp _ [ea] _ => okT T N t S ea
    | _ => false
  | .andT t w, S, e => match e with
    | .BoolOp .And (ea :: eb :: rest) pos => okT T N t S ea && okW T N w S (.BoolOp .And (eb :: rest) pos)
    | _ => false
  | .orT t w, S, e => match e with
    | .BoolOp .Or (ea :: eb :: rest) pos => okT T N t S ea && okW T N w S (.BoolOp .Or (eb :: rest) pos)
    | _ => false
  | _, _, _ => false
def okA (T : Tab) (N : List Str) (lk : Bool) : Q → Sc → List Expr → Bool
  | .nil, _, es => es.isEmpty
  | .cons a l, S, es => match es with
    | e :: es => notStar e && okE T N lk a S e && okA T N lk l S es
    | [] => false
  | .star a l, S, es => !lk && match es with
    | .Starred e _ :: es => okE T N true a S e && okA T N lk l S es
    | _ => false
  | _, _, _ => false
def okF (T : Tab) (N : List Str) : Q → Sc → Expr → Bool
  | .comp vs tg cnd elt it, S, e => match e with
    | .ListComp eelt [⟨etg, eit, eifs, asy⟩] scope _ => decide (asy = 0) && blkC N S.sc scope (ownOf N scope) && decide ((ownOf N scope).map (·.2) = vs) && tg.slots.all vs.contains && notSet eit
        && okI T N it S etg eit && okG N (inSc S scope) tg etg && (match eifs with
          | [] => (match cnd with
            | .yes => true
            | _ => false)
          | [ec] => okT T N cnd (inSc S scope) ec
          | _ => false) && okE T N false elt (inSc S scope) eelt
    | _ => false
  | .srtD vs tg cnd elt it, S, e => match e with
    | .Call (.Name x _) [.DictComp eelt (.Constant (.bool true) _ _) [⟨etg, eit, eifs, asy⟩] scope _] [] _ => nameIs S "sorted" x && (decide (asy = 0) && blkC N S.sc scope (ownOf N scope) && decide ((ownOf N scope).map (·.2) = vs) && tg.slots.all vs.contains && notSet eit
        && okI T N it S etg eit && okG N (inSc S scope) tg etg && (match eifs with
          | [] => (match cnd with
            | .yes => true
            | _ => false)
          | [ec] => okT T N cnd (inSc S scope) ec
          | _ => false) && okE T N false elt (inSc S scope) eelt)
    | _ => false
  | .disp l, S, e => match e with
    | .List es _ => okA T N false l S es
    | _ => false
  | .bil b l, S, e => match e with
    | .Call (.Name x _) (ea :: es) [] _ => nameIs S b.name x && okA T N true l S (ea :: es) && (ea :: es).all notStar
    | _ => false
  | .slF a lo hi, S, e => match e with
    | .Subscript ea (.Slice l h none _) _ => okE T N true a S ea && okO T N lo S l && okO T N hi S h
    | _ => false
  | .cat a b, S, e => match e with
    | .BinOp ea .Add eb _ => okE T N true a S ea && okE T N true b S eb
    | _ => false
  | .rep a b, S, e => match e with
    | .BinOp ea .Mult eb _ => okE T N true a S ea && okE T N true b S eb
    | _ => false
  | .rev a, S, e => match e with
    | .Subscript ea (.Slice none none (some (.UnaryOp .USub (.Constant (.int 1) _ _) _)) _) _ => okE T N true a S ea
    | _ => false
  | .rng1F a, S, e => match e with
    | .Call (.Name x _) [.Call (.Name y _) [ea] [] _] [] _ => nameIs S "list" x && nameIs S "range" y && okE T N true a S ea && notStar ea
    | _ => false
  | .rng2F a b, S, e => match e with
    | .Call (.Name x _) [.Call (.Name y _) [ea, eb] [] _] [] _ => nameIs S "list" x && nameIs S "range" y && okE T N true a S ea && okE T N true b S eb && notStar ea && notStar eb
    | _ => false
  | .iteF c a b, S, e => match e with
    | .IfExp ec ea eb _ => okT T N c S ec && okF T N a S ea && okF T N b S eb
    | _ => false
  | _, _, _ => false
def okI (T : Tab) (N : List Str) : Q → Sc → Expr → Expr → Bool
  | .seqI a, S, _, e => okE T N false a S e
  | .rng1 a, S, _, e => match e with
    | .Call (.Name x _) [ea] [] _ => nameIs S "range" x && okE T N true a S ea && notStar ea
    | _ => false
  | .rng2 l, S, _, e => match e with
    | .Call (.Name x _) [ea, eb] [] _ => nameIs S "range" x && okA T N true l S [ea, eb] && notStar ea && notStar eb
    | _ => false
  | .enu l, S, tg, e => (match tg with
    | .Tuple _ _ _ => true
    | _ => false) && match e with
    | .Call (.Name x _) [ea] [] _ => nameIs S "enumerate" x && okA T N false l S [ea] && notStar ea
    | _ => false
  | .zip l, S, tg, e => (match tg with
    | .Tuple _ _ _ => true
    | _ => false) && match e with
    | .Call (.Name x _) [ea, eb] [] _ => nameIs S "zip" x && okA T N false l S [ea, eb] && notStar ea && notStar eb
    | _ => false
  | _, _, _, _ => false
def okO (T : Tab) (N : List Str) : Q → Sc → Option Expr → Bool
  | .noO, _, o => o.isNone
  | .soO a, S, o => match o with
    | some e => okE T N true a S e
    | none => false
  | _, _, _ => false
end
end Dn
set_option Elab.async false
set_option linter.all false
set_option maxRecDepth 100000
set_option maxHeartbeats 8000000
/-! Dn R: a checked certificate tells the truth. -/
namespace Dn
open PySem PySem.Spec PyProof.Rows L2

def cM (lk : Bool) (K : PySem.W.Frag) (f : DE) : TE := if lk then cB K f else cE K f
def cAM (lk : Bool) (K : PySem.W.Frag) (f : DL) : TA := if lk then cAB K f else cA K f
theorem up {X : Cx} {e : Expr} {f : DE} (lk : Bool) (h : PE X e (cE X.K f)) : PE X e (cM lk X.K f) := by
  cases lk with
  | false => exact h
  | true => exact look_of_full h
section
variable {T : Tab} {k : Nat} {N : List Str} {S : Sc} {X : Cx}
theorem Gl.w {X X' : Cx} : True := trivial
theorem xok_blk {scope : Scope} {s : Shared} {H : Hp} {C : Addr} {cl : List (Str × Addr)} {fp : List Addr} (h : XOk T k N S X) : XOk T k N (inSc S scope) (X.blk s H scope (compEnvC scope cl C X.env) fp) where
  sc := by
    show relS scope X.env.scope = relS scope S.sc
    rw [h.sc]
  na := h.na
  nd := h.nd
  calm := h.calm
  xe := rfl
  room := h.room
  fn := fun x e => by
    have e : scope.names.lookup x = some .cell := e
    show (scope.names.lookup x == some .cell) = true
    rw [e]
    rfl
  free := h.free
  fns := fun q hq => ⟨(h.fns q hq).ok⟩
  mks := fun q hq => by
    obtain ⟨j, hj, r⟩ := h.mks q hq
    exact ⟨j, hj, ⟨r.ok⟩⟩
  isi := h.isi
  cls := h.cls
  cons := h.cons
  self := h.self
  eqs := fun q hq => ⟨(h.eqs q hq).ok⟩
theorem name_of (h : XOk T k N S X) {n : String} {x : Str} (g : nameIs S n x = true) : x = (n : Str) ∧ Gl X x ∧ (x == ("__debug__" : Str)) = false := by
  unfold nameIs at g
  rw [Bool.and_eq_true, decide_eq_true_eq] at g
  exact ⟨g.1, gl_of h g.2⟩
end
structure Snd (T : Tab) (k : Nat) (N : List Str) (q : Q) : Prop where
  e : ∀ lk S X x, XOk T k N S X → okE T N lk q S x = true → PE X x (cM lk X.K (denE T q)) := by intro lk S X x _ h; unfold okE at h; exact Bool.noConfusion h
  t : ∀ S X x, XOk T k N S X → okT T N q S x = true → PT X x (cT X.K (denT T q)) := by intro S X x _ h; unfold okT at h; exact Bool.noConfusion h
  w : ∀ S X x, XOk T k N S X → okW T N q S x = true → PW X x (cT X.K (denT T q)) := by intro S X x _ h; unfold okW at h; exact Bool.noConfusion h
  a : ∀ lk S X es, XOk T k N S X → okA T N lk q S es = true → PA X es (cAM lk X.K (denL T q)) := by intro lk S X es _ h; unfold okA at h; exact Bool.noConfusion h
  f : ∀ S X x, XOk T k N S X → okF T N q S x = true → PE X x (cF X.K (denF T q)) := by intro S X x _ h; unfold okF at h; exact Bool.noConfusion h
  i : ∀ S X tg x, XOk T k N S X → okI T N q S tg x = true → PI X tg x (cI X.K (denI T q)) := by intro S X tg x _ h; unfold okI at h; exact Bool.noConfusion h
  o : ∀ S X x, XOk T k N S X → okO T N q S x = true → PO X x (cO X.K (denO T q)) := by intro S X x _ h; unfold okO at h; exact Bool.noConfusion h
section
variable {T : Tab} {k : Nat} {N : List Str}
theorem Snd.eB {q : Q} (s : Snd T k N q) {S : Sc} {X : Cx} {x : Expr} (h : XOk T k N S X) (c : okE T N true q S x = true) : PE X x (cB X.K (denE T q)) := s.e true S X x h c
theorem Snd.eE {q : Q} (s : Snd T k N q) {S : Sc} {X : Cx} {x : Expr} (h : XOk T k N S X) (c : okE T N false q S x = true) : PE X x (cE X.K (denE T q)) := s.e false S X x h c
theorem Snd.aB {q : Q} (s : Snd T k N q) {S : Sc} {X : Cx} {x : List Expr} (h : XOk T k N S X) (c : okA T N true q S x = true) : PA X x (cAB X.K (denL T q)) := s.a true S X x h c
theorem Snd.aE {q : Q} (s : Snd T k N q) {S : Sc} {X : Cx} {x : List Expr} (h : XOk T k N S X) (c : okA T N false q S x = true) : PA X x (cA X.K (denL T q)) := s.a false S X x h c
theorem snd_const {e : Expr} {d : D} {v : V} {X : Cx} (lk : Bool) (h : PE X e (tC v)) (r : ∀ K P F, Rep K P F d v) : PE X e (cM lk X.K (eC d)) := up lk (x_c h r)
theorem snd : ∀ q : Q, Snd T k N q := by
  intro q
  induction q with
  | non =>
      refine { e := fun lk S X x h c => ?_ }
      unfold okE at c; split at c
      · exact snd_const lk pe_non fun _ _ _ => r_non
      · cases c
  | bl b =>
      refine { e := fun lk S X x h c => ?_ }
      unfold okE at c; split at c
      · cases of_decide_eq_true c
        exact snd_const lk pe_bl fun _ _ _ => r_bl
      · cases c
  | int i =>
      refine { e := fun lk S X x h c => ?_ }
      unfold okE at c; split at c
      · cases of_decide_eq_true c
        exact snd_const lk pe_int fun _ _ _ => r_int
      · cases c
  | str y =>
      refine { e := fun lk S X x h c => ?_ }
      unfold okE at c; split at c
      · cases of_decide_eq_true c
        exact snd_const lk pe_str fun _ _ _ => r_str
      · cases c
  | con j =>
      refine { e := fun lk S X x h c => ?_ }
      unfold okE at c; split at c
      · split at c
        · rename_i q e
          obtain ⟨rfl, g1, g2⟩ := name_of h c
          obtain ⟨u, v, h1, h2, h3⟩ := h.cons q (List.mem_of_getElem? e)
          unfold denE
          rw [e]
          refine up lk (PE.imp (pe_glob g1 h1 h2 g2) fun σ H Q ⟨P, F0, G0, F, ρ, p, d, p', R, e, k⟩ => ?_)
          simp only [eC, Option.some.injEq, Prod.mk.injEq] at e
          obtain ⟨rfl, rfl⟩ := e
          exact k v F H (Step.refl R.sub) R.pen (h3 _ _)
        · cases c
      · cases c
  | var i =>
      refine { e := fun lk S X x h c => ?_ }
      unfold okE at c; split at c
      · obtain ⟨h1, h2, h3, h4⟩ := var_of h c
        exact up lk (x_var h1 h2 h3 h4)
      · cases c
  | vb i =>
      refine { e := fun lk S X x h c => ?_ }
      unfold okE at c
      rw [Bool.and_eq_true] at c
      obtain ⟨rfl, c⟩ := c
      split at c
      · obtain ⟨h1, h2, h3, h4⟩ := var_of h c
        exact x_vb h1 h2 h3 h4
      · cases c
  | bin op a b iha ihb =>
      refine { e := fun lk S X x h c => ?_ }
      unfold okE at c; split at c
      · simp only [Bool.and_eq_true, decide_eq_true_eq] at c
        obtain ⟨⟨rfl, c1⟩, c2⟩ := c
        obtain ⟨r, h1, h2⟩ := op_all (room0 h) op
        exact up lk (x_bin h1 h2 (iha.eB h c1) (ihb.eB h c2))
      · cases c
  | neg a iha =>
      refine { e := fun lk S X x h c => ?_ }
      unfold okE at c; split at c
      · exact up lk (x_neg (iha.eB h c))
      · cases c
  | cmpE op a b iha ihb =>
      refine { e := fun lk S X x h c => ?_ }
      unfold okE at c; split at c
      · simp only [Bool.and_eq_true, decide_eq_true_eq, Bool.not_eq_true'] at c
        obtain ⟨⟨⟨rfl, c1⟩, c2⟩, c3⟩ := c
        obtain ⟨r, h1, h2⟩ := cmp_all (room0 h) op
        exact up lk (x_cmp h1 h2 (iha.eB h c1) (ihb.eB h c2) c3)
      · cases c
  | notE a iha =>
      refine { e := fun lk S X x h c => ?_ }
      unfold okE at c; split at c
      · exact up lk (x_notV (iha.eB h c))
      · cases c
  | andE a b iha ihb =>
      refine { e := fun lk S X x h c => ?_ }
      unfold okE at c; split at c
      · rw [Bool.and_eq_true] at c
        exact up lk (x_andV (iha.eE h c.1) (ihb.eE h c.2))
      · cases c
  | orE a b iha ihb =>
      refine { e := fun lk S X x h c => ?_ }
      unfold okE at c; split at c
      · rw [Bool.and_eq_true] at c
        exact up lk (x_orV (iha.eE h c.1) (ihb.eE h c.2))
      · cases c
  | oneE a iha =>
      refine { e := fun lk S X x h c => ?_ }
      unfold okE at c; split at c
      · exact up lk (x_one (iha.eE h c))
      · cases c
  | iteE cq a b ihc iha ihb =>
      refine { e := fun lk S X x h c => ?_ }
      unfold okE at c; split at c
      · simp only [Bool.and_eq_true] at c
        exact up lk (x_if (ihc.t _ _ _ h c.1.1) (iha.eE h c.1.2) (ihb.eE h c.2))
      · cases c
  | ix a b iha ihb =>
      refine { e := fun lk S X x h c => ?_ }
      unfold okE at c; split at c
      · simp only [Bool.and_eq_true] at c
        exact up lk (x_ix (iha.eB h c.1.2) (ihb.eB h c.2) c.1.1)
      · cases c
  | sl a lo hi iha ihl ihh =>
      refine { e := fun lk S X x h c => ?_ }
      unfold okE at c; split at c
      · simp only [Bool.and_eq_true] at c
        exact up lk (x_sl (iha.eB h c.1.1) (ihl.o _ _ _ h c.1.2) (ihh.o _ _ _ h c.2))
      · cases c
  | slF a lo hi iha ihl ihh =>
      refine { f := fun S X x h c => ?_ }
      unfold okF at c; split at c
      · simp only [Bool.and_eq_true] at c
        exact x_slF (iha.eB h c.1.1) (ihl.o _ _ _ h c.1.2) (ihh.o _ _ _ h c.2)
      · cases c
  | fld f a iha =>
      refine { e := fun lk S X x h c => ?_ }
      unfold okE at c; split at c
      · simp only [Bool.and_eq_true, decide_eq_true_eq] at c
        exact up lk (x_fld (iha.eB h c.2) c.1.1 c.1.2)
      · cases c
  | isi many cs a iha =>
      refine { e := fun lk S X x h c => ?_ }
      unfold okE at c; split at c
      · simp only [Bool.and_eq_true] at c
        obtain ⟨⟨⟨c1, c2⟩, c3⟩, c4⟩ := c
        obtain ⟨rfl, g1, g2⟩ := name_of h c1
        split at c4
        · split at c4
          · obtain ⟨t, h1, h2, h3, h4⟩ := cls_of h c4
            exact up lk (x_isi1 h.isi h3 (iha.eB h c3) c2 h4 h1 h2 g1 (h.free "isinstance" (by decide)))
          · cases c4
        · split at c4
          · simp only [Bool.and_eq_true, decide_eq_true_eq] at c4
            obtain ⟨ts, h1, h2, h3⟩ := clsL_of h c4.1
            exact up lk (x_isiT h.isi h3 (iha.eB h c3) c2 h1 h2 c4.2 g1 (h.free "isinstance" (by decide)))
          · cases c4
      · cases c
  | tup l ihl =>
      refine { e := fun lk S X x h c => ?_ }
      unfold okE at c; split at c
      · exact up lk (x_tup (ihl.aE h c))
      · cases c
  | bi b l ihl =>
      refine { e := fun lk S X x h c => ?_ }
      unfold okE at c; split at c
      · simp only [Bool.and_eq_true] at c
        obtain ⟨⟨c1, c2⟩, c3⟩ := c
        obtain ⟨rfl, g1, g2⟩ := name_of h c1
        exact up lk (bE_ok b h g1 (ihl.aB h c2) c3)
      · cases c
  | bil b l ihl =>
      refine { f := fun S X x h c => ?_ }
      unfold okF at c; split at c
      · simp only [Bool.and_eq_true] at c
        obtain ⟨⟨c1, c2⟩, c3⟩ := c
        obtain ⟨rfl, g1, g2⟩ := name_of h c1
        exact bL_ok b h g1 (ihl.aB h c2) c3
      · cases c
  | fn j l ihl =>
      refine { e := fun lk S X x h c => ?_ }
      unfold okE at c; split at c
      · rename_i y pn es pos
        split at c
        · rename_i q e
          simp only [Bool.and_eq_true] at c
          obtain ⟨⟨c1, c2⟩, c3⟩ := c
          obtain ⟨rfl, g1, g2⟩ := name_of h c1
          unfold denE
          rw [e]
          have cal := h.fns q (List.mem_of_getElem? e)
          refine up lk ?_
          cases es with
          | nil =>
            have hl : denL T l = lNil ∨ (∀ ρ p, denL T l ρ p = none) := by
              cases l <;> first | exact .inl rfl | (unfold okA at c2; cases c2)
            rcases hl with hl | hl
            · rw [hl]
              exact x_fn0 cal h.room g1 g2
            · refine PE.imp (x_fn0 cal h.room g1 g2) fun σ H Q ⟨P, F0, G0, F, ρ, p, d, p', R, e, k⟩ => ?_
              simp [eFn, hl] at e
          | cons e1 es => exact x_fn cal h.room g1 (ihl.aE h c2) g2 c3
        · cases c
      · cases c
  | mk j l ihl =>
      refine { e := fun lk S X x h c => ?_ }
      unfold okE at c; split at c
      · split at c
        · rename_i q e
          simp only [Bool.and_eq_true] at c
          obtain ⟨⟨c1, c2⟩, c3⟩ := c
          obtain ⟨rfl, g1, g2⟩ := name_of h c1
          unfold denE
          rw [e]
          obtain ⟨i, hi, mk⟩ := h.mks q (List.mem_of_getElem? e)
          exact up lk (x_mk mk (h.room.mono hi) g1 (ihl.aE h c2) g2 (by simpa using c3))
        · cases c
      · cases c
  | idx o l iho ihl =>
      refine { e := fun lk S X x h c => ?_ }
      unfold okE at c; split at c
      · simp only [Bool.and_eq_true, decide_eq_true_eq] at c
        obtain ⟨⟨⟨⟨⟨rfl, c2⟩, c3⟩, c4⟩, c5⟩, c6⟩ := c
        exact up lk (x_index (room0 h) (iho.eB h c3) (ihl.aB h c4) c5 c2 c6)
      · cases c
  | lstE l ihl =>
      refine { e := fun lk S X x h c => ?_ }
      unfold okE at c
      exact up lk (full_of_new (ihl.f _ _ _ h c))
  | insE j a b iha ihb =>
      refine { e := fun lk S X x h c => ?_ }
      unfold okE at c; split at c
      · split at c
        · rename_i q e
          simp only [Bool.and_eq_true, decide_eq_true_eq] at c
          obtain ⟨⟨rfl, c1⟩, c2⟩ := c
          unfold denE
          rw [e]
          exact up lk (x_cmpI (h.eqs q (List.mem_of_getElem? e)) h.room (iha.eB h c1) (ihb.eB h c2))
        · cases c
      · cases c
  | insT j a b iha ihb =>
      refine { t := fun S X x h c => ?_ }
      unfold okT at c; split at c
      · split at c
        · rename_i q e
          simp only [Bool.and_eq_true, decide_eq_true_eq] at c
          obtain ⟨⟨rfl, c1⟩, c2⟩ := c
          unfold denT
          rw [e]
          exact x_tcmpI (h.eqs q (List.mem_of_getElem? e)) h.room (iha.eB h c1) (ihb.eB h c2)
        · cases c
      · cases c
  | pen i kk =>
      refine { e := fun lk S X x h c => ?_ }
      unfold okE at c; split at c
      · rw [Bool.and_eq_true, decide_eq_true_eq] at c
        obtain ⟨h1, h2, h3, h4⟩ := var_of h c.1
        exact up lk (x_pen (room0 h) h1 h2 h3 h4 c.2)
      · cases c
  | join a b iha ihb =>
      refine { e := fun lk S X x h c => ?_ }
      unfold okE at c; split at c
      · simp only [Bool.and_eq_true, decide_eq_true_eq] at c
        obtain ⟨⟨⟨⟨⟨rfl, c2⟩, c3⟩, c4⟩, c5⟩, c6⟩ := c
        exact up lk (x_join (iha.eB h c3) (ihb.eB h c4) c5 c2 c6)
      · cases c
  | chnE op op2 a b cq iha ihb ihc =>
      refine { e := fun lk S X x h c => ?_ }
      unfold okE at c; split at c
      · simp only [Bool.and_eq_true, decide_eq_true_eq, Bool.not_eq_true'] at c
        obtain ⟨⟨⟨⟨⟨rfl, rfl⟩, c1⟩, c2⟩, c3⟩, c4⟩ := c
        obtain ⟨r, h1, h2⟩ := cmp_all (room0 h) op
        obtain ⟨r', h1', h2'⟩ := cmp_all (room0 h) op2
        exact up lk (x_chain h1 h1' h2 h2' (iha.eB h c1) (ihb.eB h c2) (ihc.eB h c3) c4)
      · cases c
  | rev a iha =>
      refine { f := fun S X x h c => ?_ }
      unfold okF at c; split at c
      · exact x_rev (iha.eB h c)
      · cases c
  | cmp op a b iha ihb =>
      refine { t := fun S X x h c => ?_ }
      unfold okT at c; split at c
      · simp only [Bool.and_eq_true, decide_eq_true_eq, Bool.not_eq_true'] at c
        obtain ⟨⟨⟨rfl, c1⟩, c2⟩, c3⟩ := c
        obtain ⟨r, h1, h2⟩ := cmp_all (room0 h) op
        exact x_tcmp h1 h2 (iha.eB h c1) (ihb.eB h c2) c3
      · cases c
  | chn op op2 a b cq iha ihb ihc =>
      refine { t := fun S X x h c => ?_ }
      unfold okT at c; split at c
      · simp only [Bool.and_eq_true, decide_eq_true_eq, Bool.not_eq_true'] at c
        obtain ⟨⟨⟨⟨⟨rfl, rfl⟩, c1⟩, c2⟩, c3⟩, c4⟩ := c
        obtain ⟨r, h1, h2⟩ := cmp_all (room0 h) op
        obtain ⟨r', h1', h2'⟩ := cmp_all (room0 h) op2
        exact x_tchain h1 h1' h2 h2' (iha.eB h c1) (ihb.eB h c2) (ihc.eB h c3) c4
      · cases c
  | tru a iha =>
      refine { t := fun S X x h c => ?_ }
      unfold okT at c
      rw [Bool.and_eq_true] at c
      exact x_truth (iha.eB h c.2) (plain_true c.1)
  | notT t iht =>
      refine { t := fun S X x h c => ?_ }
      unfold okT at c; split at c
      · exact x_not (iht.t _ _ _ h c)
      · cases c
  | oneT t iht =>
    have key : ∀ S X x, XOk T k N S X → okW T N (.oneT t) S x = true → PW X x (cT X.K (denT T (.oneT t))) := fun S X x h c => by
      unfold okW at c; split at c
      · rename_i op ea pos
        cases op with
        | And => exact x_and1 (iht.t _ _ _ h c)
        | Or => exact x_or1 (iht.t _ _ _ h c)
      · cases c
    exact { w := key, t := fun S X x h c => (key S X x h (by unfold okT at c; unfold okW; exact c)).pt }
  | andT t w iht ihw =>
    have key : ∀ S X x, XOk T k N S X → okW T N (.andT t w) S x = true → PW X x (cT X.K (denT T (.andT t w))) := fun S X x h c => by
      unfold okW at c; split at c
      · rw [Bool.and_eq_true] at c
        exact x_and (iht.t _ _ _ h c.1) (ihw.w _ _ _ h c.2)
      · cases c
    exact { w := key, t := fun S X x h c => (key S X x h (by unfold okT at c; unfold okW; exact c)).pt }
  | orT t w iht ihw =>
    have key : ∀ S X x, XOk T k N S X → okW T N (.orT t w) S x = true → PW X x (cT X.K (denT T (.orT t w))) := fun S X x h c => by
      unfold okW at c; split at c
      · rw [Bool.and_eq_true] at c
        exact x_or (iht.t _ _ _ h c.1) (ihw.w _ _ _ h c.2)
      · cases c
    exact { w := key, t := fun S X x h c => (key S X x h (by unfold okT at c; unfold okW; exact c)).pt }
  | iteT cq t u ihc iht ihu =>
      refine { t := fun S X x h c => ?_ }
      unfold okT at c; split at c
      · simp only [Bool.and_eq_true] at c
        exact x_tif (ihc.t _ _ _ h c.1.1) (iht.t _ _ _ h c.1.2) (ihu.t _ _ _ h c.2)
      · cases c
  | nil =>
      refine { a := fun lk S X es h c => ?_ }
      unfold okA at c
      cases es with
      | nil =>
        cases lk with
        | true => exact xb_nil
        | false => exact xa_nil
      | cons _ _ => cases c
  | cons a l iha ihl =>
      refine { a := fun lk S X es h c => ?_ }
      unfold okA at c; split at c
      · simp only [Bool.and_eq_true] at c
        cases lk with
        | true => exact xb_cons (iha.eB h c.1.2) (ihl.aB h c.2) c.1.1
        | false => exact xa_cons (iha.eE h c.1.2) (ihl.aE h c.2) c.1.1
      · cases c
  | star a l iha ihl =>
      refine { a := fun lk S X es h c => ?_ }
      unfold okA at c
      rw [Bool.and_eq_true] at c
      obtain ⟨c0, c⟩ := c
      have : lk = false := by simpa using c0
      subst this
      split at c
      · simp only [Bool.and_eq_true] at c
        exact xa_star (iha.eB h c.1) (ihl.aE h c.2)
      · cases c
  | comp vs tg cnd elt it ihc ihe ihi =>
      refine { f := fun S X x h c => ?_ }
      unfold okF at c; split at c
      · rename_i eelt etg eit eifs asy scope pos
        simp only [Bool.and_eq_true, decide_eq_true_eq] at c
        obtain ⟨⟨⟨⟨⟨⟨⟨⟨rfl, c1⟩, c2⟩, c3⟩, c4⟩, c5⟩, c6⟩, c7⟩, c8⟩ := c
        subst c2
        refine x_comp h.calm (nod h) (ihi.i _ _ _ _ h c5) (by rw [h.na, h.sc]; exact blkOk_by c1) (fun i hi => List.contains_iff_mem.mp (List.all_eq_true.mp c3 i hi)) c4
          (fun s H C cl fp => g_ok (xok_blk h) _ _ c6) (fun s H C cl fp => ?_) (fun s H C cl fp => ihe.eE (xok_blk h) c8)
        split at c7
        · split at c7
          · unfold denT
            exact xt_nil
          · cases c7
        · exact xt_one (ihc.t _ _ _ (xok_blk h) c7)
        · cases c7
      · cases c
  | lenD vs tg cnd elt it ihc ihe ihi =>
      refine { e := fun lk S X x h c => ?_ }
      unfold okE at c; split at c
      · rename_i x0 pn eelt vk vp etg eit eifs asy scope dpos pos
        rw [Bool.and_eq_true] at c
        obtain ⟨cn, c⟩ := c
        obtain ⟨rfl, gl, _⟩ := name_of h cn
        simp only [Bool.and_eq_true, decide_eq_true_eq] at c
        obtain ⟨⟨⟨⟨⟨⟨⟨⟨rfl, c1⟩, c2⟩, c3⟩, c4⟩, c5⟩, c6⟩, c7⟩, c8⟩ := c
        subst c2
        refine up lk (x_lenD h.calm (nod h) (ihi.i _ _ _ _ h c5) (by rw [h.na, h.sc]; exact blkOk_by c1) (fun i hi => List.contains_iff_mem.mp (List.all_eq_true.mp c3 i hi)) c4
          (fun s H C cl fp => g_ok (xok_blk h) _ _ c6) (fun s H C cl fp => ?_) (fun s H C cl fp => ihe.eE (xok_blk h) c8) gl (h.free "len" (by decide)))
        split at c7
        · split at c7
          · unfold denT
            exact xt_nil
          · cases c7
        · exact xt_one (ihc.t _ _ _ (xok_blk h) c7)
        · cases c7
      · cases c
  | srtD vs tg cnd elt it ihc ihe ihi =>
      refine { f := fun S X x h c => ?_ }
      unfold okF at c; split at c
      · rename_i x0 pn eelt vk vp etg eit eifs asy scope dpos pos
        rw [Bool.and_eq_true] at c
        obtain ⟨cn, c⟩ := c
        obtain ⟨rfl, gl, _⟩ := name_of h cn
        simp only [Bool.and_eq_true, decide_eq_true_eq] at c
        obtain ⟨⟨⟨⟨⟨⟨⟨⟨rfl, c1⟩, c2⟩, c3⟩, c4⟩, c5⟩, c6⟩, c7⟩, c8⟩ := c
        subst c2
        refine (x_srtD h.calm (nod h) (ihi.i _ _ _ _ h c5) (by rw [h.na, h.sc]; exact blkOk_by c1) (fun i hi => List.contains_iff_mem.mp (List.all_eq_true.mp c3 i hi)) c4
          (fun s H C cl fp => g_ok (xok_blk h) _ _ c6) (fun s H C cl fp => ?_) (fun s H C cl fp => ihe.eE (xok_blk h) c8) gl (h.free "sorted" (by decide)))
        split at c7
        · split at c7
          · unfold denT
            exact xt_nil
          · cases c7
        · exact xt_one (ihc.t _ _ _ (xok_blk h) c7)
        · cases c7
      · cases c
  | yes => exact {}
  | disp l ihl =>
      refine { f := fun S X x h c => ?_ }
      unfold okF at c; split at c
      · exact x_lst (ihl.aE h c)
      · cases c
  | cat a b iha ihb =>
      refine { f := fun S X x h c => ?_ }
      unfold okF at c; split at c
      · rw [Bool.and_eq_true] at c
        exact x_cat (iha.eB h c.1) (ihb.eB h c.2)
      · cases c
  | rep a b iha ihb =>
      refine { f := fun S X x h c => ?_ }
      unfold okF at c; split at c
      · rw [Bool.and_eq_true] at c
        exact x_rep (iha.eB h c.1) (ihb.eB h c.2)
      · cases c
  | rng1F a iha =>
      refine { f := fun S X x h c => ?_ }
      unfold okF at c; split at c
      · simp only [Bool.and_eq_true] at c
        obtain ⟨⟨⟨c1, c2⟩, c3⟩, c4⟩ := c
        obtain ⟨rfl, g1, g2⟩ := name_of h c1
        obtain ⟨rfl, g3, g4⟩ := name_of h c2
        exact x_lrng1 (iha.eB h c3) c4 h.calm g1 (h.free "list" (by decide)) g3 (h.free "range" (by decide))
      · cases c
  | rng2F a b iha ihb =>
      refine { f := fun S X x h c => ?_ }
      unfold okF at c; split at c
      · simp only [Bool.and_eq_true] at c
        obtain ⟨⟨⟨⟨⟨c1, c2⟩, c3⟩, c4⟩, c5⟩, c6⟩ := c
        obtain ⟨rfl, g1, g2⟩ := name_of h c1
        obtain ⟨rfl, g3, g4⟩ := name_of h c2
        exact x_lrng2 (iha.eB h c3) (ihb.eB h c4) c5 c6 h.calm g1 (h.free "list" (by decide)) g3 (h.free "range" (by decide))
      · cases c
  | iteF cq a b ihc iha ihb =>
      refine { f := fun S X x h c => ?_ }
      unfold okF at c; split at c
      · simp only [Bool.and_eq_true] at c
        exact x_ifF (ihc.t _ _ _ h c.1.1) (iha.f _ _ _ h c.1.2) (ihb.f _ _ _ h c.2)
      · cases c
  | seqI a iha =>
      refine { i := fun S X tg x h c => ?_ }
      unfold okI at c
      exact xi_seq (iha.eE h c)
  | rng1 a iha =>
      refine { i := fun S X tg x h c => ?_ }
      unfold okI at c; split at c
      · simp only [Bool.and_eq_true] at c
        obtain ⟨rfl, g1, g2⟩ := name_of h c.1.1
        exact xi_rng1 (iha.eB h c.1.2) c.2 g1 (h.free "range" (by decide))
      · cases c
  | rng2 l ihl =>
      refine { i := fun S X tg x h c => ?_ }
      unfold okI at c; split at c
      · simp only [Bool.and_eq_true] at c
        obtain ⟨rfl, g1, g2⟩ := name_of h c.1.1.1
        exact xi_rng2 (ihl.aB h c.1.1.2) c.1.2 c.2 g1 (h.free "range" (by decide))
      · cases c
  | enu l ihl =>
      refine { i := fun S X tg x h c => ?_ }
      unfold okI at c
      rw [Bool.and_eq_true] at c
      obtain ⟨c0, c⟩ := c
      split at c0
      · split at c
        · simp only [Bool.and_eq_true] at c
          obtain ⟨rfl, g1, g2⟩ := name_of h c.1.1
          exact xi_enu (ihl.aE h c.1.2) c.2 g1 (h.free "enumerate" (by decide))
        · cases c
      · cases c0
  | zip l ihl =>
      refine { i := fun S X tg x h c => ?_ }
      unfold okI at c
      rw [Bool.and_eq_true] at c
      obtain ⟨c0, c⟩ := c
      split at c0
      · split at c
        · simp only [Bool.and_eq_true] at c
          obtain ⟨rfl, g1, g2⟩ := name_of h c.1.1.1
          exact xi_zip (ihl.aE h c.1.1.2) c.1.2 c.2 g1 (h.free "zip" (by decide))
        · cases c
      · cases c0
  | noO =>
      refine { o := fun S X x h c => ?_ }
      unfold okO at c
      cases x with
      | none => exact xo_none
      | some _ => cases c
  | soO a iha =>
      refine { o := fun S X x h c => ?_ }
      unfold okO at c
      cases x with
      | none => cases c
      | some e => exact xo_some (iha.eB h c)
end
end Dn
set_option Elab.async false
set_option linter.all false
set_option maxRecDepth 100000
set_option maxHeartbeats 8000000
/-! Dn S: certificates of statements. -/
namespace Dn
open PySem PySem.Spec PyProof.Rows L2

/-! ### comprehensions stored -/
def swB (S : Sc) (t : Str) (tp : Pos) : Expr → Bool
  | .ListComp _ _ s p => decide (S.sc.names.lookup t = some .local) && (tp.line == p.line) && !(s.names.any fun (n, k) => n == t && (k == .local || k == .cell))
  | _ => false
def fnK (S : Sc) : Bool := match S.sc.kind with
  | .function => true
  | _ => false
def lcOr (e : Expr) : Bool := match e with
  | .SetComp .. => false
  | .DictComp .. => false
  | _ => true
section
variable {T : Tab} {k : Nat} {N : List Str} {S : Sc} {X : Cx}
theorem kind_of (h : XOk T k N S X) (g : fnK S = true) : X.env.blockKind = .function := by
  unfold Env.blockKind
  rw [h.sc]
  unfold fnK at g
  split at g
  · rename_i e
    rw [e]
    rfl
  · cases g
theorem swaps_name (h : XOk T k N S X) (g : fnK S = true) {e : Expr} {t : Str} {tp : Pos} {l : Nat} (c : lcOr e = true) : swapsWith e (some (.Name t tp)) l X.env = pure (swB S t tp e) := by
  cases e with
  | ListComp elt gs s p =>
    unfold swapsWith swB
    simp only [kind_of h g, Env.kindOf, h.sc]
    by_cases h1 : S.sc.names.lookup t = some .local
    · rw [h1]
      rfl
    · have h2 : (S.sc.names.lookup t == some NameKind.local) = false := by simpa using h1
      rw [h2]
      simp [h1]
  | SetComp _ _ _ _ => cases c
  | DictComp _ _ _ _ _ => cases c
  | _ => rfl
end

/-! ### targets of one value -/
mutual
inductive Pt where
  | nm (i : Nat)
  | ix (i : Nat) (q : Q)
  | tup (ps : Pts)
inductive Pts where
  | nil
  | cons (p : Pt) (ps : Pts)
end
mutual
def denP (T : Tab) : Pt → DGp
  | .nm i => pNm i
  | .ix i q => pIx i (denE T q)
  | .tup ps => pTup ps.len (denPs T ps)
def denPs (T : Tab) : Pts → DGps
  | .nil => pNil
  | .cons p ps => pCons (denP T p) (denPs T ps)
def Pts.len : Pts → Nat
  | .nil => 0
  | .cons _ ps => ps.len + 1
end
mutual
def okP (T : Tab) (N : List Str) (S : Sc) : Pt → Expr → Bool
  | .nm i, e => match e with
    | .Name x _ => storeC N S i x
    | _ => false
  | .ix i q, e => match e with
    | .Subscript (.Name x _) ie _ => varC N S i x && notSlice ie && okE T N true q S ie
    | _ => false
  | .tup ps, e => match e with
    | .Tuple es _ _ => okPs T N S ps es && es.all notStar
    | _ => false
def okPs (T : Tab) (N : List Str) (S : Sc) : Pts → List Expr → Bool
  | .nil, es => es.isEmpty
  | .cons g gs, es => match es with
    | e :: es => okP T N S g e && notStar e && okPs T N S gs es
    | [] => false
end
section
variable {T : Tab} {k : Nat} {N : List Str} {S : Sc} {X : Cx}
mutual
theorem p_ok (h : XOk T k N S X) : ∀ (g : Pt) (e : Expr), okP T N S g e = true → PG X e (cP X.K (denP T g))
  | .nm i, e, c => by
    unfold okP at c
    split at c
    · obtain ⟨h1, h2, h3⟩ := store_of h c
      unfold denP
      exact xp_name (nod h) h1 h2 h3
    · cases c
  | .ix i q, e, c => by
    unfold okP at c
    split at c
    · simp only [Bool.and_eq_true] at c
      obtain ⟨h1, h2, h3, h4⟩ := var_of h c.1.1
      unfold denP
      exact xp_ix h1 h2 h3 h4 ((snd q).eB h c.2) c.1.2
    · cases c
  | .tup gs, e, c => by
    unfold okP at c
    split at c
    · rw [Bool.and_eq_true] at c
      obtain ⟨c1, c2⟩ := c
      obtain ⟨r, hl⟩ := ps_ok h gs _ c1
      unfold denP
      rw [← hl]
      exact xp_tup h.calm r c2
    · cases c
theorem ps_ok (h : XOk T k N S X) : ∀ (gs : Pts) (es : List Expr), okPs T N S gs es = true → PGs X es (cPs X.K (denPs T gs)) ∧ es.length = gs.len
  | .nil, es, c => by
    unfold okPs at c
    cases es with
    | nil => 
      unfold denPs Pts.len
      exact ⟨xp_nil, rfl⟩
    | cons _ _ => cases c
  | .cons g gs, es, c => by
    unfold okPs at c
    split at c
    · simp only [Bool.and_eq_true] at c
      obtain ⟨⟨c1, c2⟩, c3⟩ := c
      obtain ⟨r, hl⟩ := ps_ok h gs _ c3
      unfold denPs Pts.len
      exact ⟨xp_cons (p_ok h g _ c1) r c2, by rw [List.length_cons, hl]⟩
    · cases c
end
end

/-! ### several values -/
inductive Kq where
  | sh (q : Q)
  | ow (q : Q)
def denK (T : Tab) : Kq → DK
  | .sh q => kSh (denE T q)
  | .ow q => kOw (denF T q)
def denKs (T : Tab) : List Kq → DKs
  | [] => ksNil
  | q :: qs => ksCons (denK T q) (denKs T qs)
def okK (T : Tab) (N : List Str) (S : Sc) : Kq → Expr → Bool
  | .sh q, e => okE T N false q S e
  | .ow q, e => okF T N q S e
def okKs (T : Tab) (N : List Str) (S : Sc) : List Kq → List Expr → Bool
  | [], es => es.isEmpty
  | q :: qs, es => match es with
    | e :: es => okK T N S q e && notStar e && okKs T N S qs es
    | [] => false
def locN (N : List Str) (S : Sc) (i : Nat) : Expr → Bool
  | .Name x _ => decide (N[i]? = some x) && decide (S.sc.names.lookup x = some .local)
  | _ => false
def stN (N : List Str) (S : Sc) : List Nat → List Expr → Bool
  | [], es => es.isEmpty
  | i :: is, es => match es with
    | .Name x _ :: es => storeC N S i x && stN N S is es
    | _ => false
/-- swappedStores of two names, three names -/
def isStar : Expr → Bool
  | .Starred _ _ => true
  | _ => false
section
variable {T : Tab} {k : Nat} {N : List Str} {S : Sc} {X : Cx}
theorem k_ok (h : XOk T k N S X) (q : Kq) {e : Expr} (c : okK T N S q e = true) : PE X e (cK X.K (denK T q)) := by
  cases q with
  | sh q => exact xk_sh ((snd q).eE h c)
  | ow q => exact xk_ow ((snd q).f _ _ _ h c)
theorem ks_ok (h : XOk T k N S X) : ∀ (qs : List Kq) {es : List Expr}, okKs T N S qs es = true → PA X es (cAK X.K (denKs T qs))
  | [], es, c => by
    unfold okKs at c
    cases es with
    | nil => exact xak_nil
    | cons _ _ => cases c
  | q :: qs, es, c => by
    unfold okKs at c
    split at c
    · simp only [Bool.and_eq_true] at c
      exact xak_cons (k_ok h q c.1.1) (ks_ok h qs c.2) c.1.2
    · cases c
theorem st_ok (h : XOk T k N S X) : ∀ (is : List Nat) {es : List Expr}, stN N S is es = true → PGs X es (gNames is) ∧ es.all notStar = true ∧ es.length = is.length
  | [], es, c => by
    unfold stN at c
    cases es with
    | nil => exact ⟨pgs_nil, rfl, rfl⟩
    | cons _ _ => cases c
  | i :: is, es, c => by
    unfold stN at c
    split at c
    · rw [Bool.and_eq_true] at c
      obtain ⟨h1, h2, h3⟩ := store_of h c.1
      obtain ⟨r1, r2, r3⟩ := st_ok h is c.2
      exact ⟨pgs_cons (pg_name (nod h) h1 h2 h3) r1 (by rfl), by rw [List.all_cons, r2]; rfl, by rw [List.length_cons, List.length_cons, r3]⟩
    · cases c
theorem any_star : ∀ {es : List Expr}, es.all notStar = true → (es.any fun | .Starred .. => true | _ => false) = false
  | [], _ => rfl
  | e :: es, h => by
    rw [List.all_cons, Bool.and_eq_true] at h
    rw [List.any_cons, any_star h.2, Bool.or_false]
    cases e <;> first | rfl | cases h.1
end
/-- the names that swappedStores sees -/
def swNames (S : Sc) (line : Nat) (ts : List Expr) : List Str := ts.filterMap fun
    | .Name id pos => if S.sc.names.lookup id == some .local && pos.line == line then some id else none
    | _ => none
/-- surely no exchange -/
def noSw (S : Sc) (ts vs : List Expr) : Bool := !(ts.length == 2 || ts.length == 3) || vs.length != ts.length ||
  ((swNames S ((ts.head?.map (·.pos.line)).getD 0) ts).length != ts.length) || vs.all (foldedForSure 8)
/-- surely an exchange of these names -/
def yesSw (S : Sc) (ts vs : List Expr) (xs : List Str) : Bool := (ts.length == 2 || ts.length == 3) && vs.length == ts.length && vs.all notStar && decide (swNames S ((ts.head?.map (·.pos.line)).getD 0) ts = xs) && xs.length == ts.length &&
  (xs.eraseDups.length == xs.length) && !vs.all (foldedForSure 8) && !vs.all (constantsAlone 8)
section
variable {T : Tab} {k : Nat} {N : List Str} {S : Sc} {X : Cx}
theorem swn (h : XOk T k N S X) (line : Nat) (ts : List Expr) : (ts.filterMap fun
    | .Name id pos => if X.env.kindOf id == some .local && pos.line == line then some id else none
    | _ => none) = swNames S line ts := by
  unfold swNames Env.kindOf
  rw [h.sc]
theorem noSw_ok (h : XOk T k N S X) {ts vs : List Expr} {a b : Nat} {p p' : Pos} (c : noSw S ts vs = true) : swappedStores [.Tuple ts a p] (.Tuple vs b p') X.env = pure none := by
  unfold noSw at c
  simp only [swappedStores]
  erw [swn h]
  by_cases h1 : (!(ts.length == 2 || ts.length == 3) || vs.length != ts.length || X.env.blockKind != .function) = true
  · rw [if_pos h1]
  · rw [if_neg h1]
    have h1' : (!(ts.length == 2 || ts.length == 3) || vs.length != ts.length) = false := by
      simp only [Bool.or_eq_true, not_or, Bool.not_eq_true] at h1
      rw [h1.1.1, h1.1.2]
      rfl
    rw [h1', Bool.false_or, Bool.or_eq_true] at c
    split
    · rfl
    · split
      · rfl
      · rename_i h3
        rcases c with c | c
        · exfalso
          apply h3
          rw [Bool.or_eq_true]
          exact .inl c
        · rw [if_pos c]
theorem yesSw_ok (h : XOk T k N S X) (g : fnK S = true) {ts vs : List Expr} {xs : List Str} {a b : Nat} {p p' : Pos} (c : yesSw S ts vs xs = true) : swappedStores [.Tuple ts a p] (.Tuple vs b p') X.env = pure (some xs) := by
  unfold yesSw at c
  simp only [Bool.and_eq_true, decide_eq_true_eq, Bool.not_eq_true'] at c
  obtain ⟨⟨⟨⟨⟨⟨⟨c1, c2⟩, c3⟩, c4⟩, c5⟩, c6⟩, c7⟩, c8⟩ := c
  simp only [swappedStores]
  erw [swn h, any_star c3]
  simp only [c4, kind_of h g]
  have c2' : vs.length = ts.length := by simpa using c2
  have c5' : xs.length = ts.length := by simpa using c5
  have c6' : xs.eraseDups.length = xs.length := by simpa using c6
  simp [c1, c2', c5', c6', c7, c8]
end
end Dn
set_option Elab.async false
set_option linter.all false
set_option maxRecDepth 100000
set_option maxHeartbeats 8000000
/-! Dn U: certificates of statements, of bodies. -/
namespace Dn
open PySem PySem.Spec PyProof.Rows L2

inductive QS where
  | nil | seq (s t : QS)
  | pass | doc | ite (c : Q) (a b : QS) | ex (q : Q) | ret (q : Q) | retN | brk | cnt | no
  | set (i : Nat) (q : Q) | own (i : Nat) (f : Q) | ownC (i : Nat) (f : Q) | fz (i : Nat) (s : QS) | app (i : Nat) (q : Q) | ext (i : Nat) (f : Q)
  | for (g : G) (it : Q) (b : QS) | whl (c : Q) (b : QS)
  | asg (q : Q) (p : Pt) | par (xs : List Str) (is : List Nat) (ks : List Kq) | parT (is : List Nat) (ks : List Kq) | fld (c f : String) (q : Q) | pen (i : Nat) (k : PK) (q : Q) | appPop (i j : Nat) (q : Q)
noncomputable def denS (T : Tab) : QS → DS
  | .nil => sSkip
  | .seq s t => sSeq (denS T s) (denS T t)
  | .pass => sSkip
  | .doc => sSkip
  | .ite c a b => sIf (denT T c) (denS T a) (denS T b)
  | .ex q => sEx (denE T q)
  | .ret q => sRet (denE T q)
  | .retN => sRetN
  | .brk => sBrk
  | .cnt => sCnt
  | .no => sNo
  | .set i q => sSet i (denE T q)
  | .own i f => sOwn i (denF T f)
  | .ownC i f => sOwn i (denF T f)
  | .fz i s => sFz i (denS T s)
  | .app i q => sApp i (denE T q)
  | .ext i f => sExt i (denF T f)
  | .for g it b => sFor (denG g) (denI T it) (denS T b)
  | .whl c b => sWhile (denT T c) (denS T b)
  | .asg q p => sAsg (denE T q) (denP T p)
  | .par _ is ks => sPar is (denKs T ks)
  | .parT is ks => sPar is (denKs T ks)
  | .fld c f q => sFld c f (denE T q)
  | .pen i k q => sPen i k (denE T q)
  | .appPop i j q => sAppPop i j (denE T q)
def notName : Expr → Bool
  | .Name _ _ => false
  | _ => true
def notSeq : Expr → Bool
  | .Tuple _ _ _ => false
  | .List _ _ => false
  | _ => true
mutual
def okS (T : Tab) (N : List Str) (S : Sc) : QS → Stmt → Bool
  | .pass, st => match st with
    | .Pass _ => true
    | _ => false
  | .doc, st => match st with
    | .Expr (.Constant (.str _) _ _) _ => true
    | _ => false
  | .ite c a b, st => match st with
    | .If ec ea eb _ => okT T N c S ec && okB T N S a ea && okB T N S b eb
    | _ => false
  | .ex q, st => match st with
    | .Expr e _ => okE T N false q S e && notComp e
    | _ => false
  | .ret q, st => match st with
    | .Return (some e) _ => okE T N false q S e
    | _ => false
  | .retN, st => match st with
    | .Return none _ => true
    | _ => false
  | .brk, st => match st with
    | .Break _ => true
    | _ => false
  | .cnt, st => match st with
    | .Continue _ => true
    | _ => false
  | .no, _ => true
  | .set i q, st => match st with
    | .Assign [.Name x tp] e _ => storeC N S i x && okE T N false q S e && lcOr e && !swB S x tp e && fnK S
    | _ => false
  | .own i f, st => match st with
    | .Assign [.Name x tp] e _ => storeC N S i x && okF T N f S e && lcOr e && !swB S x tp e && fnK S
    | _ => false
  | .ownC i f, st => match st with
    | .Assign [.Name x tp] (.ListComp eelt [⟨etg, eit, eifs, asy⟩] scope pos) _ => decide (N[i]? = some x) && decide (S.sc.names.lookup x = some .local) && swB S x tp (.ListComp eelt [⟨etg, eit, eifs, asy⟩] scope pos) && fnK S && (match f with
      | .comp vs tg cnd elt it => decide (asy = 0) && blkC N S.sc scope (ownOf N scope) && decide ((ownOf N scope).map (·.2) = vs) && tg.slots.all vs.contains && notSet eit
        && okI T N it S etg eit && okG N (inSc S scope) tg etg && (match eifs with
          | [] => (match cnd with
            | .yes => true
            | _ => false)
          | [ec] => okT T N cnd (inSc S scope) ec
          | _ => false) && okE T N false elt (inSc S scope) eelt
      | _ => false)
    | _ => false
  | .fz _ s, st => okS T N S s st
  | .app i q, st => match st with
    | .Expr (.Call (.Attribute (.Name x _) a pos') [e] [] pos) _ => decide (a = ("append" : Str)) && varC N S i x && okE T N false q S e && notStar e && (pos'.endLine == pos.line)
    | _ => false
  | .ext i f, st => match st with
    | .Expr (.Call (.Attribute (.Name x _) a pos') [e] [] pos) _ => decide (a = ("extend" : Str)) && varC N S i x && okF T N f S e && notStar e && (pos'.endLine == pos.line)
    | _ => false
  | .for g it b, st => match st with
    | .For tg iter body [] _ => okI T N it S tg iter && okG N S g tg && okB T N S b body && notSet iter
    | _ => false
  | .whl c b, st => match st with
    | .While ec body [] _ => okT T N c S ec && okB T N S b body
    | _ => false
  | .asg q p, st => match st with
    | .Assign [tg] e _ => okE T N false q S e && okP T N S p tg && notStar tg && notName tg && (match tg, e with
      | .Tuple ts _ _, .Tuple vs _ _ => noSw S ts vs
      | .List _ _, _ => false
      | _, _ => true)
    | _ => false
  | .par xs is ks, st => match st with
    | .Assign [.Tuple ts _ _] (.Tuple es _ _) _ => fnK S && okKs T N S ks es && yesSw S ts es xs && (match ts, is, xs with
      | [.Name x _, .Name y _], [i, j], [x', y'] => decide (x' = x) && decide (y' = y) && decide (N[i]? = some x) && decide (N[j]? = some y) && decide (i ≠ j) && decide (S.sc.names.lookup x = some .local) && decide (S.sc.names.lookup y = some .local) && (es.length == 2)
      | [.Name x _, .Name y _, .Name z _], [i, j, m], [x', y', z'] => decide (x' = x) && decide (y' = y) && decide (z' = z) && decide (N[i]? = some x) && decide (N[j]? = some y) && decide (N[m]? = some z) && decide (i ≠ j) && decide (i ≠ m) && decide (j ≠ m) && decide (S.sc.names.lookup x = some .local) && decide (S.sc.names.lookup y = some .local) && decide (S.sc.names.lookup z = some .local) && (es.length == 3)
      | _, _, _ => false)
    | _ => false
  | .parT is ks, st => match st with
    | .Assign [.Tuple ts _ _] (.Tuple es _ _) _ => okKs T N S ks es && stN N S is ts && decide is.Nodup && decide (is.length ≤ 100) && noSw S ts es
    | _ => false
  | .fld c f q, st => match st with
    | .Assign [.Attribute (.Name x _) g _] e _ => varC N S 0 x && decide (g = (f : Str)) && okE T N false q S e && (match T.self with
      | some r => decide (r.1 = c) && r.2.contains f
      | none => false)
    | _ => false
  | .pen i k q, st => match st with
    | .Assign [.Subscript (.Name x _) (.Constant (.str ks) _ _) _] e _ => varC N S i x && decide (ks = (k.key : Str)) && okE T N false q S e
    | _ => false
  | .appPop i j q, st => match st with
    | .Expr (.Call (.Attribute (.Name x _) a pos') [.Call (.Attribute (.Name y _) b q2) [e] [] q3] [] pos) _ => decide (a = ("append" : Str)) && decide (b = ("pop" : Str)) && varC N S i x && varC N S j y && okE T N false q S e && notStar e && (pos'.endLine == pos.line) && (q2.endLine == q3.line)
    | _ => false
  | _, _ => false
def okB (T : Tab) (N : List Str) (S : Sc) : QS → List Stmt → Bool
  | .nil, ss => ss.isEmpty
  | .seq s t, ss => match ss with
    | st :: ss => okS T N S s st && okB T N S t ss
    | [] => false
  | _, _ => false
end
structure SndS (T : Tab) (k : Nat) (N : List Str) (s : QS) : Prop where
  st : ∀ S X x, XOk T k N S X → okS T N S s x = true → PS X x (cS X.K (denS T s)) := by intro S X x _ h; unfold okS at h; exact Bool.noConfusion h
  bd : ∀ S X x, XOk T k N S X → okB T N S s x = true → PSs X x (cS X.K (denS T s)) := by intro S X x _ h; unfold okB at h; exact Bool.noConfusion h
section
variable {T : Tab} {k : Nat} {N : List Str}
theorem passes {S : Sc} {X : Cx} (h : XOk T k N S X) : PassesOwn (model X.prog X.w) X.A X.env X.xe := by
  rw [h.xe]
  exact PassesOwn.never
theorem sndS : ∀ q : QS, SndS T k N q := by
  intro q
  induction q with
  | nil =>
    refine { bd := fun S X x h c => ?_ }
    unfold okB at c
    cases x with
    | nil => exact xs_nil
    | cons _ _ => cases c
  | seq s t ihs iht =>
    refine { bd := fun S X x h c => ?_ }
    unfold okB at c; split at c
    · rw [Bool.and_eq_true] at c
      exact xs_cons (ihs.st _ _ _ h c.1) (iht.bd _ _ _ h c.2)
    · cases c
  | pass =>
    refine { st := fun S X x h c => ?_ }
    unfold okS at c; split at c
    · exact xs_pass
    · cases c
  | doc =>
    refine { st := fun S X x h c => ?_ }
    unfold okS at c; split at c
    · exact xs_doc
    · cases c
  | ite cq a b iha ihb =>
    refine { st := fun S X x h c => ?_ }
    unfold okS at c; split at c
    · simp only [Bool.and_eq_true] at c
      exact xs_if ((snd cq).t _ _ _ h c.1.1) (iha.bd _ _ _ h c.1.2) (ihb.bd _ _ _ h c.2)
    · cases c
  | ex q =>
    refine { st := fun S X x h c => ?_ }
    unfold okS at c; split at c
    · rw [Bool.and_eq_true] at c
      exact xs_ex ((snd q).eE h c.1) c.2
    · cases c
  | ret q =>
    refine { st := fun S X x h c => ?_ }
    unfold okS at c; split at c
    · exact xs_ret ((snd q).eE h c)
    · cases c
  | retN =>
    refine { st := fun S X x h c => ?_ }
    unfold okS at c; split at c
    · exact xs_retN
    · cases c
  | brk =>
    refine { st := fun S X x h c => ?_ }
    unfold okS at c; split at c
    · exact xs_brk
    · cases c
  | cnt =>
    refine { st := fun S X x h c => ?_ }
    unfold okS at c; split at c
    · exact xs_cnt
    · cases c
  | no => exact { st := fun S X x h c => xs_no }
  | set i q =>
    refine { st := fun S X x h c => ?_ }
    unfold okS at c; split at c
    · simp only [Bool.and_eq_true, Bool.not_eq_true'] at c
      obtain ⟨⟨⟨⟨c1, c2⟩, c3⟩, c4⟩, c5⟩ := c
      obtain ⟨h1, h2, h3⟩ := store_of h c1
      exact xs_set (nod h) h1 h2 ((snd q).eE h c2) (by rw [swaps_name h c5 c3, c4]) h3
    · cases c
  | own i q =>
    refine { st := fun S X x h c => ?_ }
    unfold okS at c; split at c
    · simp only [Bool.and_eq_true, Bool.not_eq_true'] at c
      obtain ⟨⟨⟨⟨c1, c2⟩, c3⟩, c4⟩, c5⟩ := c
      obtain ⟨h1, h2, h3⟩ := store_of h c1
      exact xs_own (nod h) h1 h2 ((snd q).f _ _ _ h c2) (by rw [swaps_name h c5 c3, c4]) h3
    · cases c
  | ownC i q =>
    refine { st := fun S X x h c => ?_ }
    unfold okS at c; split at c
    · simp only [Bool.and_eq_true, decide_eq_true_eq] at c
      obtain ⟨⟨⟨⟨k1, k2⟩, k3⟩, k4⟩, c⟩ := c
      split at c
      · rename_i vs tg cnd elt it
        simp only [Bool.and_eq_true, decide_eq_true_eq] at c
        obtain ⟨⟨⟨⟨⟨⟨⟨⟨rfl, c1⟩, c2⟩, c3⟩, c4⟩, c5⟩, c6⟩, c7⟩, c8⟩ := c
        subst c2
        refine PS.imp (ps_setLc h.calm (nod h) (by rw [h.na]; exact k1) (by rw [h.sc]; exact k2) (by rw [swaps_name h k4 rfl, k3]) ((snd it).i _ _ _ _ h c5) (by rw [h.na, h.sc]; exact blkOk_by c1)
          (fun s H C cl fp => g_ok (xok_blk h) _ _ c6) (fun s H C cl fp => ?_) (fun s H C cl fp => (snd elt).eE (xok_blk h) c8) (folded_plain c4)) fun D σ H q => own_c (fun σ H Q z => comp_c (fun i hi => List.contains_iff_mem.mp (List.all_eq_true.mp c3 i hi)) z) q
        split at c7
        · split at c7
          · unfold denT
            exact xt_nil
          · cases c7
        · exact xt_one ((snd cnd).t _ _ _ (xok_blk h) c7)
        · cases c7
      · cases c
    · cases c
  | fz i s ih =>
    refine { st := fun S X x h c => ?_ }
    unfold okS at c
    exact xs_fz i (ih.st _ _ _ h c)
  | app i q =>
    refine { st := fun S X x h c => ?_ }
    unfold okS at c; split at c
    · simp only [Bool.and_eq_true, decide_eq_true_eq] at c
      obtain ⟨⟨⟨⟨rfl, c1⟩, c2⟩, c3⟩, c4⟩ := c
      obtain ⟨h1, h2, h3, h4⟩ := var_of h c1
      exact xs_app (o := .Constant .none 0 ⟨0, 0, 0, 0⟩) h1 h2 h3 h4 ((snd q).eE h c2) c3 c4
    · cases c
  | ext i q =>
    refine { st := fun S X x h c => ?_ }
    unfold okS at c; split at c
    · simp only [Bool.and_eq_true, decide_eq_true_eq] at c
      obtain ⟨⟨⟨⟨rfl, c1⟩, c2⟩, c3⟩, c4⟩ := c
      obtain ⟨h1, h2, h3, h4⟩ := var_of h c1
      exact xs_ext h1 h2 h3 h4 ((snd q).f _ _ _ h c2) c3 c4
    · cases c
  | «for» g it b ih =>
    refine { st := fun S X x h c => ?_ }
    unfold okS at c; split at c
    · simp only [Bool.and_eq_true] at c
      exact xs_for (passes h) h.calm ((snd it).i _ _ _ _ h c.1.1.1) (g_ok h g _ c.1.1.2) (ih.bd _ _ _ h c.1.2) c.2
    · cases c
  | whl cq b ih =>
    refine { st := fun S X x h c => ?_ }
    unfold okS at c; split at c
    · rw [Bool.and_eq_true] at c
      exact xs_while (passes h) ((snd cq).t _ _ _ h c.1) (ih.bd _ _ _ h c.2)
    · cases c
  | asg q p =>
    refine { st := fun S X x h c => ?_ }
    unfold okS at c; split at c
    · rename_i tg e pos
      simp only [Bool.and_eq_true] at c
      obtain ⟨⟨⟨⟨c1, c2⟩, c3⟩, c4⟩, c5⟩ := c
      refine xs_asg ((snd q).eE h c1) (p_ok h p _ c2) ?_ ?_ c3
      · show swapsWith e (some tg) _ _ = _
        cases e <;> first | rfl | (cases tg <;> first | rfl | cases c4)
      · cases tg with
        | Tuple ts a b =>
          cases e with
          | Tuple vs a' b' => exact noSw_ok h c5
          | _ => rfl
        | List _ _ => cases e <;> cases c5
        | _ => cases e <;> rfl
    · cases c
  | par xs is ks =>
    refine { st := fun S X x h c => ?_ }
    unfold okS at c; split at c
    · rename_i ts kt pt es k2 pt2 pos
      simp only [Bool.and_eq_true] at c
      obtain ⟨⟨⟨c1, c2⟩, c3⟩, c4⟩ := c
      have ha := ks_ok h ks c2
      split at c4
      · simp only [Bool.and_eq_true, decide_eq_true_eq] at c4
        obtain ⟨⟨⟨⟨⟨⟨⟨rfl, rfl⟩, k1⟩, k2⟩, k3⟩, k4⟩, k5⟩, k6⟩ := c4
        have hw := fun a b p p' => yesSw_ok (k := k) (a := a) (b := b) (p := p) (p' := p') h c1 c3
        match es, k6, ha, hw with
        | [e1, e2], q, ha, hw => exact xs_par2 h.calm (nod h) (by rw [h.na]; exact k1) (by rw [h.na]; exact k2) k3 (by rw [h.sc]; exact k4) (by rw [h.sc]; exact k5) ha (hw _ _ _ _)
      · simp only [Bool.and_eq_true, decide_eq_true_eq] at c4
        obtain ⟨⟨⟨⟨⟨⟨⟨⟨⟨⟨⟨⟨rfl, rfl⟩, rfl⟩, k1⟩, k2⟩, k3⟩, k4⟩, k5⟩, k6⟩, k7⟩, k8⟩, k9⟩, k10⟩ := c4
        have hw := fun a b p p' => yesSw_ok (k := k) (a := a) (b := b) (p := p) (p' := p') h c1 c3
        match es, k10, ha, hw with
        | [e1, e2, e3], q, ha, hw => exact xs_par3 h.calm (nod h) (by rw [h.na]; exact k1) (by rw [h.na]; exact k2) (by rw [h.na]; exact k3) k4 k5 k6 (by rw [h.sc]; exact k7) (by rw [h.sc]; exact k8) (by rw [h.sc]; exact k9) ha (hw _ _ _ _)
      · cases c4
    · cases c
  | parT is ks =>
    refine { st := fun S X x h c => ?_ }
    unfold okS at c; split at c
    · simp only [Bool.and_eq_true, decide_eq_true_eq] at c
      obtain ⟨⟨⟨⟨c1, c2⟩, c3⟩, c4⟩, c5⟩ := c
      obtain ⟨r1, r2, r3⟩ := st_ok h is c2
      exact xs_parT h.calm c3 r1 r2 r3 c4 (ks_ok h ks c1) (noSw_ok h c5)
    · cases c
  | fld cn f q =>
    refine { st := fun S X x h c => ?_ }
    unfold okS at c; split at c
    · simp only [Bool.and_eq_true, decide_eq_true_eq] at c
      obtain ⟨⟨⟨c1, rfl⟩, c2⟩, c3⟩ := c
      split at c3
      · rename_i r hs
        rw [Bool.and_eq_true, decide_eq_true_eq] at c3
        obtain ⟨rfl, c4⟩ := c3
        obtain ⟨h1, h2, h3, h4⟩ := var_of h c1
        obtain ⟨g1, g2⟩ := h.self r hs
        exact xs_fld h1 h2 h3 h4 rfl ((snd q).eE h c2) (by cases ‹Expr› <;> rfl) ⟨g1, g2 f (List.contains_iff_mem.mp c4)⟩
      · cases c3
    · cases c
  | pen i kk q =>
    refine { st := fun S X x h c => ?_ }
    unfold okS at c; split at c
    · simp only [Bool.and_eq_true, decide_eq_true_eq] at c
      obtain ⟨h1, h2, h3, h4⟩ := var_of h c.1.1
      exact xs_pen (room0 h) h1 h2 h3 h4 c.1.2 ((snd q).eE h c.2)
    · cases c
  | appPop i j q =>
    refine { st := fun S X x h c => ?_ }
    unfold okS at c; split at c
    · simp only [Bool.and_eq_true, decide_eq_true_eq] at c
      obtain ⟨⟨⟨⟨⟨⟨⟨rfl, rfl⟩, c1⟩, c2⟩, c3⟩, c4⟩, c5⟩, c6⟩ := c
      obtain ⟨h1, h2, h3, h4⟩ := var_of h c1
      obtain ⟨k1, k2, k3, k4⟩ := var_of h c2
      exact xs_appPop h1 h2 h3 h4 k1 k2 k3 k4 ((snd q).eE h c3) c4 c5 c6
    · cases c
end
end Dn
set_option Elab.async false
set_option linter.all false
set_option maxRecDepth 100000
set_option maxHeartbeats 4000000
/-! Dn W: what a meaning gives, by simp. -/
namespace Dn
open PySem PySem.Spec PyProof.Rows L2

/-- it gives something of which Q holds -/
def W {α : Type} (r : Option (α × Pen)) (Q : α → Pen → Prop) : Prop := ∃ a p, r = some (a, p) ∧ Q a p
section
variable {α β : Type} {Q Q' : α → Pen → Prop} {p : Pen} {a : α}
theorem W_some : W (some (a, p)) Q ↔ Q a p := by
  constructor
  · rintro ⟨b, q, e, h⟩
    cases e
    exact h
  · exact fun h => ⟨a, p, rfl, h⟩
theorem W_some' {x : α × Pen} : W (some x) Q ↔ Q x.1 x.2 := W_some
theorem W_none : W (none : Option (α × Pen)) Q ↔ False := by
  constructor
  · rintro ⟨b, q, e, h⟩
    cases e
  · exact fun h => h.elim
theorem W_bind {x : Option (β × Pen)} {f : β × Pen → Option (α × Pen)} : W (x.bind f) Q ↔ W x fun b q => W (f (b, q)) Q := by
  constructor
  · rintro ⟨b, q, e, h⟩
    obtain ⟨⟨c, r⟩, e1, e2⟩ := Option.bind_eq_some_iff.mp e
    exact ⟨c, r, e1, b, q, e2, h⟩
  · rintro ⟨c, r, e1, b, q, e2, h⟩
    exact ⟨b, q, Option.bind_eq_some_iff.mpr ⟨_, e1, e2⟩, h⟩
theorem W_bind0 {γ : Type} {x : Option γ} {f : γ → Option (α × Pen)} : W (x.bind f) Q ↔ ∃ c, x = some c ∧ W (f c) Q := by
  constructor
  · rintro ⟨b, q, e, h⟩
    obtain ⟨c, e1, e2⟩ := Option.bind_eq_some_iff.mp e
    exact ⟨c, e1, b, q, e2, h⟩
  · rintro ⟨c, e1, b, q, e2, h⟩
    exact ⟨b, q, Option.bind_eq_some_iff.mpr ⟨_, e1, e2⟩, h⟩
theorem W_map {x : Option (β × Pen)} {f : β × Pen → α × Pen} : W (x.map f) Q ↔ W x fun b q => Q (f (b, q)).1 (f (b, q)).2 := by
  constructor
  · rintro ⟨b, q, e, h⟩
    obtain ⟨⟨c, r⟩, e1, e2⟩ := Option.map_eq_some_iff.mp e
    exact ⟨c, r, e1, by show Q (f (c, r)).1 (f (c, r)).2; rw [e2]; exact h⟩
  · rintro ⟨c, r, e1, h⟩
    exact ⟨_, _, Option.map_eq_some_iff.mpr ⟨_, e1, rfl⟩, h⟩
theorem W_map0 {γ : Type} {x : Option γ} {f : γ → α × Pen} : W (x.map f) Q ↔ ∃ c, x = some c ∧ Q (f c).1 (f c).2 := by
  constructor
  · rintro ⟨b, q, e, h⟩
    obtain ⟨c, e1, e2⟩ := Option.map_eq_some_iff.mp e
    exact ⟨c, e1, by rw [e2]; exact h⟩
  · rintro ⟨c, e1, h⟩
    exact ⟨_, _, Option.map_eq_some_iff.mpr ⟨_, e1, rfl⟩, h⟩
theorem W_ite {c : Prop} [Decidable c] {x y : Option (α × Pen)} : W (if c then x else y) Q ↔ if c then W x Q else W y Q := by
  by_cases h : c <;> simp [h]
theorem W.mono {x : Option (α × Pen)} (h : W x Q) (k : ∀ a p, Q a p → Q' a p) : W x Q' := by
  obtain ⟨b, q, e, h⟩ := h
  exact ⟨b, q, e, k _ _ h⟩
theorem W_eq {x : Option (α × Pen)} (e : x = some (a, p)) : W x Q ↔ Q a p := by rw [e, W_some]
end
theorem Env_at {ρ : Env} {i : Nat} : Env.at ρ i = (ρ[i]?).getD .no := rfl
/-- the pen stands within its cells -/
def PenOk (p : Pen) : Prop := 0 ≤ p.at_
/-- a loop by an invariant: it ends by itself -/
theorem for_inv {b : DG} {s : DS} {I : Env → Pen → Prop} : ∀ {xs : List D} {ρ : Env} {p : Pen}, I ρ p → (∀ x ∈ xs, ∀ ρ p, I ρ p → ∃ ρ1, b x ρ = some ρ1 ∧ W (s ρ1 p) fun o p' => ∃ ρ2, (o = .nx ρ2 ∨ o = .ct ρ2) ∧ I ρ2 p') → W (forGo b s xs ρ p) fun o p' => ∃ ρ2, o = .nx ρ2 ∧ I ρ2 p'
  | [], ρ, p, h, _ => ⟨_, _, rfl, ρ, rfl, h⟩
  | x :: xs, ρ, p, h, k => by
    obtain ⟨ρ1, e1, o, p', e2, ρ2, ho, h2⟩ := k x List.mem_cons_self ρ p h
    have ih := for_inv (xs := xs) h2 fun y hy => k y (List.mem_cons_of_mem _ hy)
    unfold forGo
    rw [e1, Option.bind_some, e2]
    rcases ho with rfl | rfl <;> exact ih
/-- a loop by an invariant over the items that are done -/
theorem for_at {b : DG} {s : DS} {I : Nat → Env → Pen → Prop} : ∀ {xs : List D} {n : Nat} {ρ : Env} {p : Pen}, I n ρ p → (∀ j x, xs[j]? = some x → ∀ ρ p, I (n + j) ρ p → ∃ ρ1, b x ρ = some ρ1 ∧ W (s ρ1 p) fun o p' => ∃ ρ2, (o = .nx ρ2 ∨ o = .ct ρ2) ∧ I (n + j + 1) ρ2 p') → W (forGo b s xs ρ p) fun o p' => ∃ ρ2, o = .nx ρ2 ∧ I (n + xs.length) ρ2 p'
  | [], n, ρ, p, h, _ => ⟨_, _, rfl, ρ, rfl, h⟩
  | x :: xs, n, ρ, p, h, k => by
    obtain ⟨ρ1, e1, o, p', e2, ρ2, ho, h2⟩ := k 0 x rfl ρ p h
    have ih := for_at (xs := xs) (n := n + 1) (I := I) h2 fun j y hy ρ p hI => by
      have e : n + 1 + j = n + (j + 1) := by omega
      have := k (j + 1) y (by simpa using hy) ρ p (by rw [← e]; exact hI)
      rw [← e] at this
      exact this
    have e : n + 1 + xs.length = n + (x :: xs).length := by rw [List.length_cons]; omega
    rw [e] at ih
    unfold forGo
    rw [e1, Option.bind_some, e2]
    rcases ho with rfl | rfl <;> exact ih
/-- a comprehension without a pen: by a function of the items -/
theorem comp_pure {b : DG} {c : DT} {f : DE} {ρ : Env} {p : Pen} {k : D → Bool} {g : D → D} : ∀ {xs : List D}, (∀ x ∈ xs, ∃ ρ1, b x ρ = some ρ1 ∧ c ρ1 p = some (k x, p) ∧ (k x = true → f ρ1 p = some (g x, p))) → compGo b c f ρ xs p = some ((xs.filter k).map g, p)
  | [], _ => rfl
  | x :: xs, h => by
    obtain ⟨ρ1, e1, e2, e3⟩ := h x List.mem_cons_self
    have ih := comp_pure (xs := xs) fun y hy => h y (List.mem_cons_of_mem _ hy)
    simp only [compGo, e1, Option.bind_some, e2]
    cases hk : k x with
    | false => simp [ih, hk]
    | true => simp [e3 hk, ih, hk]
/-- a comprehension that draws: what holds of each item -/
theorem comp_each {b : DG} {c : DT} {f : DE} {ρ : Env} {R : Nat → D → Prop} : ∀ {xs : List D} {n : Nat} {p : Pen}, PenOk p → (∀ j x, xs[j]? = some x → ∀ p, PenOk p → ∃ ρ1, b x ρ = some ρ1 ∧ c ρ1 p = some (true, p) ∧ W (f ρ1 p) fun d p' => PenOk p' ∧ R (n + j) d) →
    W (compGo b c f ρ xs p) fun ds p' => PenOk p' ∧ ds.length = xs.length ∧ ∀ (j : Nat) d, ds[j]? = some d → R (n + j) d
  | [], n, p, hp, _ => ⟨[], p, rfl, hp, rfl, fun j d e => by simp at e⟩
  | x :: xs, n, p, hp, h => by
    obtain ⟨ρ1, e1, e2, d, p', e3, hp', hd⟩ := h 0 x rfl p hp
    obtain ⟨ds, p2, e4, hp2, hl, hds⟩ := comp_each (xs := xs) (n := n + 1) (R := R) hp' fun j y hy p hp => by
      have := h (j + 1) y (by simpa using hy) p hp
      rw [show n + (j + 1) = n + 1 + j by omega] at this
      exact this
    refine ⟨d :: ds, p2, ?_, hp2, by simp [hl], fun j z e => ?_⟩
    · simp only [compGo, e1, Option.bind_some, e2, if_true, e3, e4, Option.map_some]
    · cases j with
      | zero =>
        simp at e
        subst e
        exact hd
      | succ j =>
        have := hds j z (by simpa using e)
        rw [show n + 1 + j = n + (j + 1) by omega] at this
        exact this
theorem ints_map (ns : List Int) : intsOf (ns.map D.int) = some ns := by
  induction ns with
  | nil => rfl
  | cons n ns ih => rw [List.map_cons, intsOf, ih]; rfl
end Dn
set_option Elab.async false
set_option linter.all false
set_option maxRecDepth 100000
set_option maxHeartbeats 4000000
/-! Dn C: the meanings, step by step (simp goes on only where the values are known). -/
namespace Dn
open PySem PySem.Spec PyProof.Rows L2

def Ok {α : Type} (o : Option α) (Q : α → Prop) : Prop := ∃ d, o = some d ∧ Q d
section
variable {α β γ : Type} {Q : α → Pen → Prop} {p : Pen}
@[simp] theorem Ok_some {R : α → Prop} {d : α} : Ok (some d) R ↔ R d := by
  constructor
  · rintro ⟨e, h, k⟩
    cases h
    exact k
  · exact fun h => ⟨d, rfl, h⟩
@[simp] theorem Ok_none {R : α → Prop} : Ok none R ↔ False := by
  constructor
  · rintro ⟨e, h, k⟩
    cases h
  · exact fun h => h.elim
@[simp] theorem Ok_map {R : β → Prop} {o : Option α} {f : α → β} : Ok (o.map f) R ↔ Ok o fun d => R (f d) := by
  cases o <;> simp
@[simp] theorem Ok_ite {R : α → Prop} {c : Prop} [Decidable c] {x y : Option α} : Ok (if c then x else y) R ↔ (c → Ok x R) ∧ (¬c → Ok y R) := by
  by_cases h : c <;> simp [h]
theorem W_ok {o : Option γ} {f : γ → α × Pen} : W (o.map f) Q ↔ Ok o fun c => Q (f c).1 (f c).2 := W_map0
theorem W_okb {o : Option γ} {f : γ → Option (α × Pen)} : W (o.bind f) Q ↔ Ok o fun c => W (f c) Q := W_bind0
theorem W_if {c : Prop} [Decidable c] {x y : Option (α × Pen)} : W (if c then x else y) Q ↔ (c → W x Q) ∧ (¬c → W y Q) := by
  by_cases h : c <;> simp [h]
theorem eq_of_W {x : Option (α × Pen)} {a : α} (h : W x fun b q => b = a ∧ q = p) : x = some (a, p) := by
  obtain ⟨b, q, e, rfl, rfl⟩ := h
  exact e
end
section
variable (s t : DS) (f g a b c : DE) (l r : DL) (k : DK) (ks : DKs) (u v w : DT) (ρ : Env) (p : Pen) (i j : Nat) (is : List Nat) (o1 o2 : DO)
variable (Q : Out → Pen → Prop) (QD : D → Pen → Prop) (QB : Bool → Pen → Prop) (QL : List D → Pen → Prop) (QC : Cell → Pen → Prop) (QCs : List Cell → Pen → Prop) (QO : Option Int → Pen → Prop)
-- statements
def kSeq : Out → Pen → Prop := fun o p => match o with
  | .nx ρ => W (t ρ p) Q
  | o => Q o p
@[simp] theorem w_seq : W (sSeq s t ρ p) Q ↔ W (s ρ p) (kSeq t Q) := by
  unfold sSeq
  rw [W_bind]
  constructor <;> (rintro ⟨o, q, e, h⟩; refine ⟨o, q, e, ?_⟩; cases o <;> simpa [kSeq, W_some] using h)
@[simp] theorem k_seq0 : kSeq t Q (.nx ρ) p ↔ W (t ρ p) Q := Iff.rfl
@[simp] theorem k_seq1 (d : D) : kSeq t Q (.rt d) p ↔ Q (.rt d) p := Iff.rfl
@[simp] theorem k_seq2 : kSeq t Q (.bk ρ) p ↔ Q (.bk ρ) p := Iff.rfl
@[simp] theorem k_seq3 : kSeq t Q (.ct ρ) p ↔ Q (.ct ρ) p := Iff.rfl
def kIf : Bool → Pen → Prop := fun x p => (x = true → W (s ρ p) Q) ∧ (x = false → W (t ρ p) Q)
@[simp] theorem w_if : W (sIf u s t ρ p) Q ↔ W (u ρ p) (kIf s t ρ Q) := by
  unfold sIf
  rw [W_bind]
  constructor <;> (rintro ⟨o, q, e, h⟩; refine ⟨o, q, e, ?_⟩; cases o <;> simpa [kIf] using h)
@[simp] theorem k_if (x : Bool) : kIf s t ρ Q x p ↔ (x = true → W (s ρ p) Q) ∧ (x = false → W (t ρ p) Q) := Iff.rfl
def kSet : D → Pen → Prop := fun d p => Q (.nx (ρ.set i (.sh d))) p
@[simp] theorem w_set : W (sSet i f ρ p) Q ↔ W (f ρ p) (kSet ρ i Q) := by
  unfold sSet
  rw [W_map]
  rfl
@[simp] theorem k_set (d : D) : kSet ρ i Q d p ↔ Q (.nx (ρ.set i (.sh d))) p := Iff.rfl
def kOwn : List D → Pen → Prop := fun d p => Q (.nx (ρ.set i (.own d))) p
@[simp] theorem w_own : W (sOwn i l ρ p) Q ↔ W (l ρ p) (kOwn ρ i Q) := by
  unfold sOwn
  rw [W_map]
  rfl
@[simp] theorem k_own (d : List D) : kOwn ρ i Q d p ↔ Q (.nx (ρ.set i (.own d))) p := Iff.rfl
def kRet : D → Pen → Prop := fun d p => Q (.rt d) p
@[simp] theorem w_ret : W (sRet f ρ p) Q ↔ W (f ρ p) (kRet Q) := by
  unfold sRet
  rw [W_map]
  rfl
@[simp] theorem k_ret (d : D) : kRet Q d p ↔ Q (.rt d) p := Iff.rfl
@[simp] theorem w_retN : W (sRetN ρ p) Q ↔ Q (.rt .non) p := W_some
@[simp] theorem w_skip : W (sSkip ρ p) Q ↔ Q (.nx ρ) p := W_some
def kEx : D → Pen → Prop := fun _ p => Q (.nx ρ) p
@[simp] theorem w_ex : W (sEx f ρ p) Q ↔ W (f ρ p) (kEx ρ Q) := by
  unfold sEx
  rw [W_map]
  rfl
@[simp] theorem k_ex (d : D) : kEx ρ Q d p ↔ Q (.nx ρ) p := Iff.rfl
@[simp] theorem w_no : W (sNo ρ p) Q ↔ False := W_none
@[simp] theorem w_cnt : W (sCnt ρ p) Q ↔ Q (.ct ρ) p := W_some
@[simp] theorem w_brk : W (sBrk ρ p) Q ↔ Q (.bk ρ) p := W_some
@[simp] theorem w_fz : W (sFz i s ρ p) Q ↔ W (s (frz1 i ρ) p) Q := Iff.rfl
def kApp : D → Pen → Prop := fun d p => match ρ.at i with
  | .own xs => xs.length < sizeLine ∧ Q (.nx (ρ.set i (.own (xs ++ [d])))) p
  | _ => False
@[simp] theorem w_app : W (sApp i f ρ p) Q ↔ W (f ρ p) (kApp ρ i Q) ∧ (ρ.at i).isOwn = true := by
  unfold sApp
  cases h : ρ.at i with
  | own xs =>
    simp only
    rw [W_bind]
    constructor
    · rintro ⟨d, q, e, z⟩
      refine ⟨⟨d, q, e, ?_⟩, rfl⟩
      rw [W_if, W_some, W_none] at z
      by_cases hx : xs.length < sizeLine
      · unfold kApp
        rw [h]
        exact ⟨hx, z.1 hx⟩
      · exact (z.2 hx).elim
    · rintro ⟨⟨d, q, e, z⟩, _⟩
      refine ⟨d, q, e, ?_⟩
      unfold kApp at z
      rw [h] at z
      show W _ _
      rw [W_if, W_some]
      exact ⟨fun _ => z.2, fun n => absurd z.1 n⟩
  | _ => simp [W_none, Cell.isOwn]
def kExt : List D → Pen → Prop := fun d p => match ρ.at i with
  | .own xs => xs.length + d.length ≤ sizeLine ∧ Q (.nx (ρ.set i (.own (xs ++ d)))) p
  | _ => False
@[simp] theorem w_ext : W (sExt i l ρ p) Q ↔ W (l ρ p) (kExt ρ i Q) ∧ (ρ.at i).isOwn = true := by
  unfold sExt
  cases h : ρ.at i with
  | own xs =>
    simp only
    rw [W_bind]
    constructor
    · rintro ⟨d, q, e, z⟩
      refine ⟨⟨d, q, e, ?_⟩, rfl⟩
      rw [W_if, W_some, W_none] at z
      by_cases hx : xs.length + d.length ≤ sizeLine
      · unfold kExt
        rw [h]
        exact ⟨hx, z.1 hx⟩
      · exact (z.2 hx).elim
    · rintro ⟨⟨d, q, e, z⟩, _⟩
      refine ⟨d, q, e, ?_⟩
      unfold kExt at z
      rw [h] at z
      show W _ _
      rw [W_if, W_some]
      exact ⟨fun _ => z.2, fun n => absurd z.1 n⟩
  | _ => simp [W_none, Cell.isOwn]
def kPar : List Cell → Pen → Prop := fun cs p => Ok (setAll is cs ρ) fun ρ' => Q (.nx ρ') p
@[simp] theorem w_par : W (sPar is ks ρ p) Q ↔ W (ks ρ p) (kPar ρ is Q) := by
  unfold sPar
  rw [W_bind]
  constructor <;> (rintro ⟨o, q, e, h⟩; exact ⟨o, q, e, by simpa [kPar, W_ok] using h⟩)
@[simp] theorem k_par (cs : List Cell) : kPar ρ is Q cs p ↔ Ok (setAll is cs ρ) fun ρ' => Q (.nx ρ') p := Iff.rfl
@[simp] theorem w_ksNil : W (ksNil ρ p) QCs ↔ QCs [] p := W_some
def kKs : Cell → Pen → Prop := fun c p => W (ks ρ p) fun cs p => QCs (c :: cs) p
@[simp] theorem w_ksCons : W (ksCons k ks ρ p) QCs ↔ W (k ρ p) (kKs ks ρ QCs) := by
  unfold ksCons
  rw [W_bind]
  constructor <;> (rintro ⟨o, q, e, h⟩; exact ⟨o, q, e, by simpa [kKs, W_map] using h⟩)
@[simp] theorem k_ks (c : Cell) : kKs ks ρ QCs c p ↔ W (ks ρ p) fun cs p => QCs (c :: cs) p := Iff.rfl
@[simp] theorem w_kSh : W (kSh f ρ p) QC ↔ W (f ρ p) fun d p => QC (.sh d) p := W_map
@[simp] theorem w_kOw : W (kOw l ρ p) QC ↔ W (l ρ p) fun d p => QC (.own d) p := W_map
def kFor (q : DG) : List D → Pen → Prop := fun xs p => W (forGo q s xs ρ p) Q
@[simp] theorem w_for (q : DG) (it : DL) : W (sFor q it s ρ p) Q ↔ W (it ρ p) (kFor s ρ Q q) := by
  unfold sFor
  rw [W_bind]
  rfl
@[simp] theorem k_for (q : DG) (xs : List D) : kFor s ρ Q q xs p ↔ W (forGo q s xs ρ p) Q := Iff.rfl
-- expressions
@[simp] theorem w_c (d : D) : W (eC d ρ p) QD ↔ QD d p := W_some
def kB1 (h : D → D → Option D) : D → Pen → Prop := fun x p => W (b ρ p) fun y p => Ok (h x y) fun d => QD d p
@[simp] theorem w_bin (h : D → D → Option D) : W (eBin h a b ρ p) QD ↔ W (a ρ p) (kB1 b ρ QD h) := by
  unfold eBin
  rw [W_bind]
  constructor <;> (rintro ⟨o, q, e, z⟩; exact ⟨o, q, e, by simpa [kB1, W_bind, W_ok] using z⟩)
@[simp] theorem k_b1 (h : D → D → Option D) (x : D) : kB1 b ρ QD h x p ↔ W (b ρ p) fun y p => Ok (h x y) fun d => QD d p := Iff.rfl
@[simp] theorem w_un (h : D → Option D) : W (eUn h a ρ p) QD ↔ W (a ρ p) fun x p => Ok (h x) fun d => QD d p := by
  unfold eUn
  rw [W_bind]
  constructor <;> (rintro ⟨o, q, e, z⟩; exact ⟨o, q, e, by simpa [W_ok] using z⟩)
@[simp] theorem w_var : W (eVar i ρ p) QD ↔ Ok (match ρ.at i with | .sh d => some d | _ => none) fun d => QD d p := by
  unfold eVar
  cases ρ.at i <;> simp [W_some, W_none]
@[simp] theorem w_vb : W (eVb i ρ p) QD ↔ Ok (match ρ.at i with | .sh d => some d | .own xs => some (.lst xs) | _ => none) fun d => QD d p := by
  unfold eVb
  cases ρ.at i <;> simp [W_some, W_none]
@[simp] theorem w_pen (q : PK) : W (ePen i q ρ p) QD ↔ ρ.at i = .sh .pen ∧ QD (p.get q) p := by
  unfold ePen
  split
  · rename_i h
    simp [W_some, h]
  · rename_i h
    constructor
    · intro z
      exact (W_none.mp z).elim
    · rintro ⟨z, _⟩
      exact absurd z (h)
def kSp (q : PK) : D → Pen → Prop := fun x p => match x with
  | .int n => Ok (p.put n q) fun p' => Q (.nx ρ) p'
  | _ => False
@[simp] theorem w_spen (q : PK) : W (sPen i q f ρ p) Q ↔ ρ.at i = .sh .pen ∧ W (f ρ p) (kSp ρ Q q) := by
  unfold sPen
  split
  · rename_i h
    rw [W_bind]
    constructor
    · rintro ⟨o, q, e, z⟩
      refine ⟨h, o, q, e, ?_⟩
      cases o <;> simpa [kSp, W_ok, W_none] using z
    · rintro ⟨_, o, q, e, z⟩
      refine ⟨o, q, e, ?_⟩
      cases o <;> simpa [kSp, W_ok, W_none] using z
  · rename_i h
    constructor
    · intro z
      exact (W_none.mp z).elim
    · rintro ⟨z, _⟩
      exact absurd z h
@[simp] theorem k_sp (q : PK) (n : Int) : kSp ρ Q q (.int n) p ↔ Ok (p.put n q) fun p' => Q (.nx ρ) p' := Iff.rfl
@[simp] theorem w_eT : W (eT u ρ p) QD ↔ W (u ρ p) fun x p => QD (.bl x) p := W_map
def kC1 (h : D → D → Option Bool) : D → Pen → Prop := fun x p => W (b ρ p) fun y p => Ok (h x y) fun d => QB d p
@[simp] theorem w_cmp (h : D → D → Option Bool) : W (tCmp h a b ρ p) QB ↔ W (a ρ p) (kC1 b ρ QB h) := by
  unfold tCmp
  rw [W_bind]
  constructor <;> (rintro ⟨o, q, e, z⟩; exact ⟨o, q, e, by simpa [kC1, W_bind, W_ok] using z⟩)
@[simp] theorem k_c1 (h : D → D → Option Bool) (x : D) : kC1 b ρ QB h x p ↔ W (b ρ p) fun y p => Ok (h x y) fun d => QB d p := Iff.rfl
def kCh2 (h' : D → D → Option Bool) (y : D) : Bool → Pen → Prop := fun z p => (z = true → W (c ρ p) fun d p => Ok (h' y d) fun d => QB d p) ∧ (z = false → QB false p)
def kCh1 (h h' : D → D → Option Bool) : D → Pen → Prop := fun x p => W (b ρ p) fun y p => Ok (h x y) fun z => kCh2 c ρ QB h' y z p
@[simp] theorem w_chn (h h' : D → D → Option Bool) : W (tChn h h' a b c ρ p) QB ↔ W (a ρ p) (kCh1 b c ρ QB h h') := by
  unfold tChn
  rw [W_bind]
  constructor
  · rintro ⟨o, q, e, z⟩
    refine ⟨o, q, e, ?_⟩
    rw [W_bind] at z
    obtain ⟨y, q2, e2, z⟩ := z
    refine ⟨y, q2, e2, ?_⟩
    rw [W_okb] at z
    obtain ⟨d, e3, z⟩ := z
    refine ⟨d, e3, ?_⟩
    cases d <;> simpa [kCh2, W_bind, W_ok, W_some] using z
  · rintro ⟨o, q, e, y, q2, e2, d, e3, z⟩
    refine ⟨o, q, e, ?_⟩
    show W _ _
    rw [W_bind]
    refine ⟨y, q2, e2, ?_⟩
    show W _ _
    rw [W_okb]
    refine ⟨d, e3, ?_⟩
    cases d <;> simpa [kCh2, W_bind, W_ok, W_some] using z
@[simp] theorem k_ch1 (h h' : D → D → Option Bool) (x : D) : kCh1 b c ρ QB h h' x p ↔ W (b ρ p) fun y p => Ok (h x y) fun z => kCh2 c ρ QB h' y z p := Iff.rfl
@[simp] theorem k_ch2 (h' : D → D → Option Bool) (y : D) (z : Bool) : kCh2 c ρ QB h' y z p ↔ (z = true → W (c ρ p) fun d p => Ok (h' y d) fun d => QB d p) ∧ (z = false → QB false p) := Iff.rfl
@[simp] theorem w_not : W (tNot u ρ p) QB ↔ W (u ρ p) fun x p => QB (!x) p := W_map
def kAnd : Bool → Pen → Prop := fun x p => (x = true → W (v ρ p) QB) ∧ (x = false → QB false p)
@[simp] theorem w_and : W (tAnd u v ρ p) QB ↔ W (u ρ p) (kAnd v ρ QB) := by
  unfold tAnd
  rw [W_bind]
  constructor <;> (rintro ⟨o, q, e, z⟩; refine ⟨o, q, e, ?_⟩; cases o <;> simpa [kAnd, W_some] using z)
@[simp] theorem k_and (x : Bool) : kAnd v ρ QB x p ↔ (x = true → W (v ρ p) QB) ∧ (x = false → QB false p) := Iff.rfl
def kOr : Bool → Pen → Prop := fun x p => (x = true → QB true p) ∧ (x = false → W (v ρ p) QB)
@[simp] theorem w_or : W (tOr u v ρ p) QB ↔ W (u ρ p) (kOr v ρ QB) := by
  unfold tOr
  rw [W_bind]
  constructor <;> (rintro ⟨o, q, e, z⟩; refine ⟨o, q, e, ?_⟩; cases o <;> simpa [kOr, W_some] using z)
@[simp] theorem k_or (x : Bool) : kOr v ρ QB x p ↔ (x = true → QB true p) ∧ (x = false → W (v ρ p) QB) := Iff.rfl
def kTif : Bool → Pen → Prop := fun x p => (x = true → W (v ρ p) QB) ∧ (x = false → W (w ρ p) QB)
@[simp] theorem w_tif : W (tIf u v w ρ p) QB ↔ W (u ρ p) (kTif v w ρ QB) := by
  unfold tIf
  rw [W_bind]
  constructor <;> (rintro ⟨o, q, e, z⟩; refine ⟨o, q, e, ?_⟩; cases o <;> simpa [kTif] using z)
@[simp] theorem k_tif (x : Bool) : kTif v w ρ QB x p ↔ (x = true → W (v ρ p) QB) ∧ (x = false → W (w ρ p) QB) := Iff.rfl
@[simp] theorem w_tE : W (tE f ρ p) QB ↔ W (f ρ p) fun x p => Ok x.tru fun b => QB b p := by
  unfold tE
  rw [W_bind]
  constructor <;> (rintro ⟨o, q, e, z⟩; exact ⟨o, q, e, by simpa [W_ok] using z⟩)
def kEif : Bool → Pen → Prop := fun x p => (x = true → W (a ρ p) QD) ∧ (x = false → W (b ρ p) QD)
@[simp] theorem w_eif : W (eIf u a b ρ p) QD ↔ W (u ρ p) (kEif a b ρ QD) := by
  unfold eIf
  rw [W_bind]
  constructor <;> (rintro ⟨o, q, e, z⟩; refine ⟨o, q, e, ?_⟩; cases o <;> simpa [kEif] using z)
@[simp] theorem k_eif (x : Bool) : kEif a b ρ QD x p ↔ (x = true → W (a ρ p) QD) ∧ (x = false → W (b ρ p) QD) := Iff.rfl
def kLif : Bool → Pen → Prop := fun x p => (x = true → W (l ρ p) QL) ∧ (x = false → W (r ρ p) QL)
@[simp] theorem w_lif : W (lIf u l r ρ p) QL ↔ W (u ρ p) (kLif l r ρ QL) := by
  unfold lIf
  rw [W_bind]
  constructor <;> (rintro ⟨o, q, e, z⟩; refine ⟨o, q, e, ?_⟩; cases o <;> simpa [kLif] using z)
@[simp] theorem k_lif (x : Bool) : kLif l r ρ QL x p ↔ (x = true → W (l ρ p) QL) ∧ (x = false → W (r ρ p) QL) := Iff.rfl
def kEand : D → Pen → Prop := fun x p => Ok x.tru fun t => (t = true → W (b ρ p) QD) ∧ (t = false → QD x p)
@[simp] theorem w_eand : W (eAnd a b ρ p) QD ↔ W (a ρ p) (kEand b ρ QD) := by
  unfold eAnd
  rw [W_bind]
  constructor
  · rintro ⟨o, q, e, z⟩
    refine ⟨o, q, e, ?_⟩
    rw [W_okb] at z
    obtain ⟨t, e2, z⟩ := z
    exact ⟨t, e2, by cases t <;> simpa [W_some] using z⟩
  · rintro ⟨o, q, e, t, e2, z⟩
    refine ⟨o, q, e, ?_⟩
    show W _ _
    rw [W_okb]
    exact ⟨t, e2, by cases t <;> simpa [W_some] using z⟩
@[simp] theorem k_eand (x : D) : kEand b ρ QD x p ↔ Ok x.tru fun t => (t = true → W (b ρ p) QD) ∧ (t = false → QD x p) := Iff.rfl
def kEor : D → Pen → Prop := fun x p => Ok x.tru fun t => (t = true → QD x p) ∧ (t = false → W (b ρ p) QD)
@[simp] theorem w_eor : W (eOr a b ρ p) QD ↔ W (a ρ p) (kEor b ρ QD) := by
  unfold eOr
  rw [W_bind]
  constructor
  · rintro ⟨o, q, e, z⟩
    refine ⟨o, q, e, ?_⟩
    rw [W_okb] at z
    obtain ⟨t, e2, z⟩ := z
    exact ⟨t, e2, by cases t <;> simpa [W_some] using z⟩
  · rintro ⟨o, q, e, t, e2, z⟩
    refine ⟨o, q, e, ?_⟩
    show W _ _
    rw [W_okb]
    exact ⟨t, e2, by cases t <;> simpa [W_some] using z⟩
@[simp] theorem k_eor (x : D) : kEor b ρ QD x p ↔ Ok x.tru fun t => (t = true → QD x p) ∧ (t = false → W (b ρ p) QD) := Iff.rfl
@[simp] theorem w_call (h : List D → Option D) : W (eCall h l ρ p) QD ↔ W (l ρ p) fun x p => Ok (h x) fun d => QD d p := by
  unfold eCall
  rw [W_bind]
  constructor <;> (rintro ⟨o, q, e, z⟩; exact ⟨o, q, e, by simpa [W_ok] using z⟩)
@[simp] theorem w_lcall (h : List D → Option (List D)) : W (lCall h l ρ p) QL ↔ W (l ρ p) fun x p => Ok (h x) fun d => QL d p := by
  unfold lCall
  rw [W_bind]
  constructor <;> (rintro ⟨o, q, e, z⟩; exact ⟨o, q, e, by simpa [W_ok] using z⟩)
@[simp] theorem w_lNil : W (lNil ρ p) QL ↔ QL [] p := W_some
def kLc : D → Pen → Prop := fun x p => W (l ρ p) fun xs p => QL (x :: xs) p
@[simp] theorem w_lCons : W (lCons f l ρ p) QL ↔ W (f ρ p) (kLc l ρ QL) := by
  unfold lCons
  rw [W_bind]
  constructor <;> (rintro ⟨o, q, e, z⟩; exact ⟨o, q, e, by simpa [kLc, W_map] using z⟩)
@[simp] theorem k_lc (x : D) : kLc l ρ QL x p ↔ W (l ρ p) fun xs p => QL (x :: xs) p := Iff.rfl
def kLs : D → Pen → Prop := fun x p => Ok x.its fun ys => W (l ρ p) fun xs p => QL (ys ++ xs) p
@[simp] theorem w_lStar : W (lStar f l ρ p) QL ↔ W (f ρ p) (kLs l ρ QL) := by
  unfold lStar
  rw [W_bind]
  constructor <;> (rintro ⟨o, q, e, z⟩; exact ⟨o, q, e, by simpa [kLs, W_map, W_okb] using z⟩)
@[simp] theorem k_ls (x : D) : kLs l ρ QL x p ↔ Ok x.its fun ys => W (l ρ p) fun xs p => QL (ys ++ xs) p := Iff.rfl
@[simp] theorem w_tup : W (eTup l ρ p) QD ↔ W (l ρ p) fun xs p => xs.length ≤ sizeLine ∧ QD (.tup xs) p := by
  unfold eTup
  rw [W_bind]
  constructor <;> (rintro ⟨o, q, e, z⟩; refine ⟨o, q, e, ?_⟩; by_cases hz : o.length ≤ sizeLine <;> simp [hz, W_some, W_none] at z ⊢ <;> exact z)
@[simp] theorem w_disp : W (lDisp l ρ p) QL ↔ W (l ρ p) fun xs p => xs.length ≤ sizeLine ∧ QL xs p := by
  unfold lDisp
  rw [W_bind]
  constructor <;> (rintro ⟨o, q, e, z⟩; refine ⟨o, q, e, ?_⟩; by_cases hz : o.length ≤ sizeLine <;> simp [hz, W_some', W_none] at z ⊢ <;> exact z)
@[simp] theorem w_lst : W (eLst l ρ p) QD ↔ W (l ρ p) fun xs p => QD (.lst xs) p := by
  have e : eLst l ρ p = (l ρ p).map fun x => (.lst x.1, x.2) := by
    unfold eLst
    cases l ρ p <;> rfl
  rw [e, W_map]
def kFn (n : Nat) (m : Fn) : List D → Pen → Prop := fun xs p => xs.length = n ∧ W (m xs p) QD
@[simp] theorem w_fn (n : Nat) (m : Fn) : W (eFn n m l ρ p) QD ↔ W (l ρ p) (kFn QD n m) := by
  unfold eFn
  rw [W_bind]
  constructor <;> (rintro ⟨o, q, e, z⟩; refine ⟨o, q, e, ?_⟩; by_cases hz : o.length = n <;> simp [hz, W_none, kFn] at z ⊢ <;> exact z)
@[simp] theorem k_fn (n : Nat) (m : Fn) (xs : List D) : kFn QD n m xs p ↔ xs.length = n ∧ W (m xs p) QD := Iff.rfl
def kMk (cn : String) (fl : List String) : List (String × D) → Pen → Prop := fun fs p => (fs.all fun q => fl.contains q.1) = true ∧ QD (.ins cn fs) p
def kMk0 (cn : String) (fl : List String) (n : Nat) (m : Fi) : List D → Pen → Prop := fun xs p => xs.length = n ∧ W (m xs p) (kMk QD cn fl)
@[simp] theorem w_mk (cn : String) (fl : List String) (n : Nat) (m : Fi) : W (eMk cn fl n m l ρ p) QD ↔ W (l ρ p) (kMk0 QD cn fl n m) := by
  unfold eMk
  rw [W_bind]
  constructor
  · rintro ⟨o, q, e, z⟩
    refine ⟨o, q, e, ?_⟩
    by_cases hz : o.length = n
    · simp only [hz, if_true, W_bind] at z
      obtain ⟨fs, q2, e2, z⟩ := z
      refine ⟨hz, fs, q2, e2, ?_⟩
      by_cases h2 : (fs.all fun q => fl.contains q.1) = true
      · simp only [h2, if_true, W_some] at z
        exact ⟨h2, z⟩
      · rw [W_if, W_none] at z
        exact (z.2 h2).elim
    · simp [hz, W_none] at z
  · rintro ⟨o, q, e, hz, fs, q2, e2, h2, z⟩
    refine ⟨o, q, e, ?_⟩
    simp only [hz, if_true, W_bind]
    refine ⟨fs, q2, e2, ?_⟩
    simp only [h2, if_true, W_some]
    exact z
@[simp] theorem k_mk0 (cn : String) (fl : List String) (n : Nat) (m : Fi) (xs : List D) : kMk0 QD cn fl n m xs p ↔ xs.length = n ∧ W (m xs p) (kMk QD cn fl) := Iff.rfl
@[simp] theorem k_mk (cn : String) (fl : List String) (fs : List (String × D)) : kMk QD cn fl fs p ↔ (fs.all fun q => fl.contains q.1) = true ∧ QD (.ins cn fs) p := Iff.rfl
@[simp] theorem w_oNo : W (oNo ρ p) QO ↔ QO none p := W_some
@[simp] theorem w_oSo : W (oSo f ρ p) QO ↔ W (f ρ p) fun x p => Ok (match x with | .int i => some i | _ => none) fun i => QO (some i) p := by
  unfold oSo
  rw [W_bind]
  constructor <;> (rintro ⟨o, q, e, z⟩; refine ⟨o, q, e, ?_⟩; cases o <;> simpa [W_some, W_none] using z)
def sliceD (x : D) (lo hi : Option Int) : Option D := match x with
  | .tup xs => some (.tup (cut xs lo hi))
  | .str s => if s.length ≤ sizeLine then some (.str (cutS s lo hi)) else none
  | .lst xs => some (.lst (cut xs lo hi))
  | _ => none
def kSl : D → Pen → Prop := fun x p => W (o1 ρ p) fun lo p => W (o2 ρ p) fun hi p => Ok (sliceD x lo hi) fun d => QD d p
@[simp] theorem w_sl : W (eSl a o1 o2 ρ p) QD ↔ W (a ρ p) (kSl ρ o1 o2 QD) := by
  have e : eSl a o1 o2 ρ p = (a ρ p).bind fun x => (o1 ρ x.2).bind fun y => (o2 ρ y.2).bind fun z => (sliceD x.1 y.1 z.1).map fun d => (d, z.2) := by
    unfold eSl
    congr 1
    funext x
    congr 1
    funext y
    congr 1
    funext z
    unfold sliceD
    cases x.1 <;> simp
  rw [e, W_bind]
  constructor <;> (rintro ⟨o, q, e, z⟩; exact ⟨o, q, e, by simpa [kSl, W_bind, W_ok] using z⟩)
@[simp] theorem k_sl (x : D) : kSl ρ o1 o2 QD x p ↔ W (o1 ρ p) fun lo p => W (o2 ρ p) fun hi p => Ok (sliceD x lo hi) fun d => QD d p := Iff.rfl
@[simp] theorem w_yes : W (tYes ρ p) QB ↔ QB true p := W_some
def kComp (vs : List Nat) (q : DG) (u : DT) (f : DE) : List D → Pen → Prop := fun xs p => xs.length ≤ sizeLine ∧ W (compGo q u f (wipeE ρ vs) xs p) QL
@[simp] theorem w_comp (vs : List Nat) (q : DG) (it : DL) : W (lComp vs q u f it ρ p) QL ↔ W (it ρ p) (kComp ρ QL vs q u f) := by
  unfold lComp
  rw [W_bind]
  constructor <;> (rintro ⟨o, q, e, z⟩; refine ⟨o, q, e, ?_⟩; by_cases hz : o.length ≤ sizeLine <;> simp [hz, W_none, kComp] at z ⊢ <;> exact z)
@[simp] theorem k_comp (vs : List Nat) (q : DG) (u : DT) (f : DE) (xs : List D) : kComp ρ QL vs q u f xs p ↔ xs.length ≤ sizeLine ∧ W (compGo q u f (wipeE ρ vs) xs p) QL := Iff.rfl
-- walks
@[simp] theorem w_seqI : W (iSeq f ρ p) QL ↔ W (f ρ p) fun x p => Ok x.walk fun xs => QL xs p := by
  unfold iSeq
  rw [W_bind]
  constructor <;> (rintro ⟨o, q, e, z⟩; exact ⟨o, q, e, by simpa [W_ok] using z⟩)
end
end Dn
set_option Elab.async false
set_option linter.all false
set_option maxRecDepth 100000
set_option maxHeartbeats 4000000
/-! Dn L: the draws that all laws share. -/
namespace Dn
open PySem PySem.Spec PyProof.Rows L2

noncomputable def drawTail : DS :=
  (sSeq (sIf (tCmp gGt (ePen 0 .digits) (eC (.int 0)))
  (sSeq (sSet 3 (eBin gMod (eCall (g1 gInt) (lCons (ePen 0 .digits) lNil)) (eVar 1)))
  (sSeq (sPen 0 .digits (eBin gDiv (ePen 0 .digits) (eVar 1)))
  (sSeq (sRet (eVar 3))
  sSkip)))
  sSkip)
  (sSeq (sSet 4 (eBin gMod (eCall (g1 gInt) (lCons (eBin gAdd (eBin gAdd (eBin gMul (ePen 0 .fold) (eC (.int 48271))) (eBin gMul (ePen 0 .count) (eC (.int 7919)))) (eC (.int 13))) lNil)) (eC (.int 2147483647))))
  (sSeq (sSet 4 (eBin gMod (eCall (g1 gInt) (lCons (eBin gAdd (eBin gAdd (eBin gMul (eVar 4) (eVar 4)) (eBin gMul (eC (.int 31)) (eVar 4))) (ePen 0 .count)) lNil)) (eC (.int 2147483629))))
  (sSeq (sPen 0 .fold (eBin gMod (eCall (g1 gInt) (lCons (eBin gAdd (eBin gMul (eVar 4) (eC (.int 16807))) (eC (.int 7))) lNil)) (eC (.int 2147483647))))
  (sSeq (sRet (eBin gMod (eCall (g1 gInt) (lCons (eBin gDiv (eVar 4) (eC (.int 64))) lNil)) (eVar 1)))
  sSkip)))))
noncomputable def s__law_draw : DS :=
  (sSeq (sPen 0 .count (eBin gAdd (ePen 0 .count) (eC (.int 1))))
  (sSeq (sIf (tAnd (tCmp gEq (ePen 0 .digits) (eC (.int 0))) (tCmp gLt (ePen 0 .at_) (eCall (g1 gLen) (lCons (ePen 0 .cells) lNil))))
  (sSeq (sSet 2 (eBin gIx (ePen 0 .cells) (ePen 0 .at_)))
  (sSeq (sPen 0 .at_ (eBin gAdd (ePen 0 .at_) (eC (.int 1))))
  (sSeq (sIf (tCmp gGe (eVar 2) (eBin gPow (eC (.int 10)) (eC (.int 18))))
  (sSeq (sPen 0 .digits (eBin gSub (eVar 2) (eBin gPow (eC (.int 10)) (eC (.int 18)))))
  sSkip)
  (sSeq (sPen 0 .fold (eBin gMod (eCall (g1 gInt) (lCons (eBin gAdd (eBin gMul (ePen 0 .fold) (eC (.int 69069))) (eVar 2)) lNil)) (eC (.int 2147483587))))
  sSkip))
  sSkip)))
  sSkip)
  drawTail))
noncomputable def d__law_draw : Fn := fnD 2 5 s__law_draw
noncomputable def s__law_pick : DS :=
  (sSeq (sRet (eBin gIx (eVar 1) (eFn 2 d__law_draw (lCons (eVar 0) (lCons (eCall (g1 gLen) (lCons (eVar 1) lNil)) lNil)))))
  sSkip)
noncomputable def d__law_pick : Fn := fnD 2 2 s__law_pick
noncomputable def s__law_shuffled : DS :=
  (sSeq (sPar [2, 3] (ksCons (kOw (lCall (h1 D.its) (lCons (eVar 1) lNil))) (ksCons (kOw (lDisp lNil)) ksNil)))
  (sSeq (sFor (bNm 4) (iRng1 (eCall (g1 gLen) (lCons (eVar 1) lNil)))
  (sSeq (sAppPop 3 2 (eFn 2 d__law_draw (lCons (eVar 0) (lCons (eCall (g1 gLen) (lCons (eVb 2) lNil)) lNil))))
  sSkip))
  (sSeq (sFz 3 (sRet (eVar 3)))
  sSkip)))
noncomputable def d__law_shuffled : Fn := fnD 2 5 s__law_shuffled


@[simp] theorem a_at_nil {j : Nat} : Env.at [] j = .no := by simp [Env_at]
@[simp] theorem a_at_0 {c : Cell} {ρ : Env} : Env.at (c :: ρ) 0 = c := by simp [Env_at]
@[simp] theorem a_at_s {c : Cell} {ρ : Env} {j : Nat} : Env.at (c :: ρ) (j + 1) = Env.at ρ j := by simp [Env_at]
section
variable {i j : Int} {R : D → Prop} {RB : Bool → Prop}
theorem int_eqv : D.eqv (.int i) (.int j) = decide (i = j) := by
  show PyData.eqv (.int i) (.int j) = _
  unfold PyData.eqv
  by_cases h : i = j <;> simp [h]
@[simp] theorem i_add : gAdd (.int i) (.int j) = some (.int (i + j)) := rfl
@[simp] theorem i_sub : gSub (.int i) (.int j) = some (.int (i - j)) := rfl
@[simp] theorem i_lt : gLt (.int i) (.int j) = some (decide (i < j)) := rfl
@[simp] theorem i_le : gLe (.int i) (.int j) = some (decide (i ≤ j)) := rfl
@[simp] theorem i_gt : gGt (.int i) (.int j) = some (decide (j < i)) := rfl
@[simp] theorem i_ge : gGe (.int i) (.int j) = some (decide (j ≤ i)) := rfl
@[simp] theorem i_int : gInt (.int i) = some (.int i) := rfl
@[simp] theorem i_eq : gEq (.int i) (.int j) = some (decide (i = j)) := by
  show some (D.eqv (.int i) (.int j)) = _
  rw [int_eqv]
@[simp] theorem i_ne : gNe (.int i) (.int j) = some (!decide (i = j)) := by
  show some (!D.eqv (.int i) (.int j)) = _
  rw [int_eqv]
@[simp] theorem i_mul : Ok (gMul (.int i) (.int j)) R ↔ (big64 i || big64 j) = true ∧ R (.int (i * j)) := by
  show Ok (if big64 i || big64 j then some (D.int (i * j)) else none) R ↔ _
  by_cases h : (big64 i || big64 j) = true <;> simp [h]
@[simp] theorem i_mod : Ok (gMod (.int i) (.int j)) R ↔ j ≠ 0 ∧ R (.int (i.fmod j)) := by
  show Ok (if j ≠ 0 then some (D.int (i.fmod j)) else none) R ↔ _
  by_cases h : j = 0 <;> simp [h]
@[simp] theorem i_div : Ok (gDiv (.int i) (.int j)) R ↔ (j ≠ 0 ∧ j.natAbs < 1073741824) ∧ R (.int (i.fdiv j)) := by
  show Ok (if j ≠ 0 ∧ j.natAbs < 1073741824 then some (D.int (i.fdiv j)) else none) R ↔ _
  by_cases h : (j ≠ 0 ∧ j.natAbs < 1073741824)
  · rw [if_pos h]
    simp [h]
  · rw [if_neg h]
    simp [h]
@[simp] theorem i_pow : Ok (gPow (.int i) (.int j)) R ↔ (0 ≤ j ∧ j ≤ 1000000 ∧ i.natAbs < 2 ^ 64) ∧ R (.int (i ^ j.toNat)) := by
  show Ok (if 0 ≤ j ∧ j ≤ 1000000 ∧ i.natAbs < 2 ^ 64 then some (D.int (i ^ j.toNat)) else none) R ↔ _
  by_cases h : (0 ≤ j ∧ j ≤ 1000000 ∧ i.natAbs < 2 ^ 64)
  · rw [if_pos h]
    simp [h]
  · rw [if_neg h]
    simp only [Ok_none, h, false_and]
@[simp] theorem ix_lst (xs : List D) : gIx (.lst xs) (.int i) = L2.atI xs i := rfl
@[simp] theorem ix_tup (xs : List D) : gIx (.tup xs) (.int i) = L2.atI xs i := rfl
@[simp] theorem ln_lst (xs : List D) : gLen (.lst xs) = some (.int xs.length) := rfl
@[simp] theorem ln_tup (xs : List D) : gLen (.tup xs) = some (.int xs.length) := rfl
@[simp] theorem a_g1 (h : D → Option D) (x : D) : g1 h [x] = h x := rfl
@[simp] theorem a_h1 (h : D → Option (List D)) (x : D) : h1 h [x] = h x := rfl
@[simp] theorem its_lst (xs : List D) : D.its (.lst xs) = some xs := rfl
@[simp] theorem its_tup (xs : List D) : D.its (.tup xs) = some xs := rfl
@[simp] theorem tup_lst (xs : List D) : gTup (.lst xs) = some (.tup xs) := rfl
@[simp] theorem tup_tup (xs : List D) : gTup (.tup xs) = some (.tup xs) := rfl
@[simp] theorem walk_lst (xs : List D) : D.walk (.lst xs) = some xs := rfl
@[simp] theorem walk_tup (xs : List D) : D.walk (.tup xs) = some xs := rfl
@[simp] theorem tru_bl (b : Bool) : D.tru (.bl b) = some b := rfl
end
theorem atI_nat {α : Type} {xs : List α} {n : Nat} (h : n < xs.length) : L2.atI xs (n : Int) = some xs[n] := by
  unfold L2.atI ixN
  rw [if_pos (Int.natCast_nonneg n), if_pos (by omega)]
  simp [h]
section
variable (n m : Nat) (s : DS) (ds : List D) (p : Pen) (Q : D → Pen → Prop) (ρ : Env)
def kRes : Out → Pen → Prop := fun o p => match o with
  | .rt d => Q d p
  | .nx _ => Q .non p
  | _ => False
theorem w_fnD : W (fnD n m s ds p) Q ↔ ds.length = n ∧ W (s (envOf m ds) p) (kRes Q) := by
  unfold fnD
  by_cases h : ds.length = n
  · simp only [h, if_true, W_bind, true_and]
    constructor <;> (rintro ⟨o, q, e, z⟩; refine ⟨o, q, e, ?_⟩; cases o <;> simpa [kRes, W_some, W_none] using z)
  · simp [h, W_none]
@[simp] theorem k_res0 (d : D) : kRes Q (.rt d) p ↔ Q d p := Iff.rfl
@[simp] theorem k_res1 : kRes Q (.nx ρ) p ↔ Q .non p := Iff.rfl
end
@[simp] theorem env_of (m : Nat) (ds : List D) : Dn.envOf m ds = ds.map Cell.sh ++ List.replicate (m - ds.length) Cell.no := rfl
@[simp] theorem rep_s {α : Type} (n : Nat) (a : α) : List.replicate (n + 1) a = a :: List.replicate n a := rfl
theorem big_l {j : Int} (h : -(2 ^ 64) < j ∧ j < 2 ^ 64) : big64 j = true := by simp [big64]; omega
theorem big_m {m : Int} (h0 : 0 < m) (hb : m < 1073741824) : m ≠ 0 ∧ m.natAbs < 1073741824 := by omega
theorem tail_ok {p : Pen} {m : Int} {c : Cell} (hp : PenOk p) (hm : 0 < m) (hb : m < 1073741824) : W (drawTail [.sh .pen, .sh (.int m), c, .no, .no] p) (kRes fun d p' => PenOk p' ∧ ∃ i : Int, d = .int i ∧ 0 ≤ i ∧ i < m) := by
  have e0 := big_m hm hb
  have f1 : ∀ x : Int, 0 ≤ x.fmod m := fun x => Int.fmod_nonneg_of_pos _ hm
  have f2 : ∀ x : Int, x.fmod m < m := fun x => Int.fmod_lt_of_pos _ hm
  have g1 : ∀ x : Int, big64 (x.fmod 2147483647) = true := fun x => big_l (by
    have h1 := Int.fmod_nonneg_of_pos x (show (0 : Int) < 2147483647 by decide)
    have h2 := Int.fmod_lt_of_pos x (show (0 : Int) < 2147483647 by decide)
    omega)
  have b1 : big64 48271 = true := by decide
  have b2 : big64 7919 = true := by decide
  have b3 : big64 31 = true := by decide
  have b4 : big64 16807 = true := by decide
  simp [drawTail, Pen.get, Pen.put, e0, f1, f2, g1, b1, b2, b3, b4, hp, PenOk]
  exact ⟨fun _ => hp, fun _ => hp⟩
theorem draw_ok {p : Pen} {m : Int} (hp : PenOk p) (hm : 0 < m) (hb : m < 1073741824) : W (d__law_draw [.pen, .int m] p) fun d p' => PenOk p' ∧ ∃ i : Int, d = .int i ∧ 0 ≤ i ∧ i < m := by
  have b1 : big64 69069 = true := by decide
  unfold d__law_draw
  simp [w_fnD, envOf, s__law_draw, Pen.get, Pen.put, b1]
  refine ⟨fun h0 => ⟨fun h1 => ?_, fun _ => tail_ok hp hm hb⟩, fun _ => tail_ok hp hm hb⟩
  have hp0 : 0 ≤ p.at_ := hp
  obtain ⟨n, hn⟩ := Int.eq_ofNat_of_zero_le hp0
  have hl : n < (p.cells.map D.int).length := by rw [List.length_map]; omega
  rw [hn, atI_nat hl, List.getElem_map]
  have q : ∀ (d f : Int), PenOk { cells := p.cells, at_ := (n : Int) + 1, digits := d, count := p.count + 1, fold := f } := fun d f => by
    show 0 ≤ (n : Int) + 1
    omega
  simp [Pen.put]
  exact ⟨fun _ => tail_ok (q _ _) hm hb, fun _ => tail_ok (q _ _) hm hb⟩
theorem pick_ok {p : Pen} {x : D} {xs : List D} (hp : PenOk p) (hx : x = .lst xs ∨ x = .tup xs) (h0 : xs ≠ []) (hb : xs.length < 1073741824) : W (d__law_pick [.pen, x] p) fun d p' => PenOk p' ∧ d ∈ xs := by
  have hl : 0 < xs.length := List.length_pos_iff.mpr h0
  have key : W (d__law_draw [.pen, .int xs.length] p) fun d p' => PenOk p' ∧ ∃ i : Int, d = .int i ∧ 0 ≤ i ∧ i < xs.length := draw_ok hp (by omega) (by omega)
  have fin : W (d__law_draw [.pen, .int xs.length] p) fun y p' => Ok (gIx x y) fun d => PenOk p' ∧ d ∈ xs := key.mono fun d p' h => by
    obtain ⟨h1, i, rfl, h2, h3⟩ := h
    obtain ⟨n, rfl⟩ := Int.eq_ofNat_of_zero_le h2
    have hn : n < xs.length := by omega
    rcases hx with rfl | rfl
    · exact ⟨xs[n], by rw [ix_lst, atI_nat hn], h1, List.getElem_mem hn⟩
    · exact ⟨xs[n], by rw [ix_tup, atI_nat hn], h1, List.getElem_mem hn⟩
  unfold d__law_pick
  rcases hx with rfl | rfl
  · simpa [w_fnD, envOf, s__law_pick] using fin
  · simpa [w_fnD, envOf, s__law_pick] using fin
def rngOk (x : D) : Option (List D) := match x with
  | .int j => if -(2 ^ 62) ≤ j ∧ j < 2 ^ 62 then some ((List.range j.toNat).map fun i : Nat => D.int i) else none
  | _ => none
theorem rng1_eq {f : DE} {ρ : Env} {p : Pen} : iRng1 f ρ p = (f ρ p).bind fun x => (rngOk x.1).map fun xs => (xs, x.2) := by
  unfold iRng1
  congr 1
  funext x
  unfold rngOk
  cases x.1 with
  | int j => by_cases h : -(2 ^ 62) ≤ j ∧ j < 2 ^ 62 <;> simp only [h, if_true, if_false, Option.map_some, Option.map_none, and_self]
  | _ => rfl
theorem w_rng1 {f : DE} {ρ : Env} {p : Pen} {QL : List D → Pen → Prop} : W (iRng1 f ρ p) QL ↔ W (f ρ p) fun x p => Ok (rngOk x) fun xs => QL xs p := by
  rw [rng1_eq, W_bind]
  constructor <;> (rintro ⟨o, q, e, z⟩; exact ⟨o, q, e, by simpa [W_ok] using z⟩)
theorem rngOk_nat (n : Nat) (h : n < 1000000000) : rngOk (.int n) = some ((List.range n).map fun i : Nat => D.int i) := by
  unfold rngOk
  have c : -(2 ^ 62) ≤ (n : Int) ∧ (n : Int) < 2 ^ 62 := ⟨Int.le_trans (by decide) (Int.natCast_nonneg n), Int.lt_of_lt_of_le (Int.ofNat_lt.mpr h) (by decide)⟩
  simp only
  rw [if_pos c, Int.toNat_natCast]
theorem app_pop0 {i j m : Nat} {ρ : Env} {xs ys : List D} {f : DE} {p p' : Pen} {n : Int} {d : D} (hij : i ≠ j) (h1 : ρ.at i = .own xs) (h2 : ρ.at j = .own ys) (e : f ρ p = some (.int n, p')) (c : -(2 ^ 63) ≤ n ∧ n < 2 ^ 63 ∧ xs.length < sizeLine) (si : seqIndex? n ys.length = some m) (hd : ys[m]? = some d) :
    sAppPop i j f ρ p = some (.nx ((ρ.set j (.own (ys.eraseIdx m))).set i (.own (xs ++ [d]))), p') := by
  unfold sAppPop
  rw [if_neg hij, h1, h2]
  show ((f ρ p).bind _) = _
  rw [e, Option.bind_some]
  show (if _ then _ else _) = _
  rw [if_pos c, si, Option.bind_some, hd, Option.map_some]
theorem app_pop {left found : List D} {x y : D} {p p' : Pen} {m : Nat} (hm : m < left.length) (hl : left.length < 1000000) (hf : found.length < 1000000) {f : DE} (e : f [.sh .pen, .sh x, .own left, .own found, .sh y] p = some (.int (m : Int), p')) :
    sAppPop 3 2 f [.sh .pen, .sh x, .own left, .own found, .sh y] p = some (.nx [.sh .pen, .sh x, .own (left.eraseIdx m), .own (found ++ [left[m]]), .sh y], p') := by
  have si : seqIndex? (m : Int) left.length = some m := (L2.ixN_seq (i := (m : Int)) (n := left.length) (j := m) (by
    unfold L2.ixN
    rw [if_pos (Int.natCast_nonneg m), if_pos (by omega)]
    simp)).1
  have c : -(2 ^ 63) ≤ (m : Int) ∧ (m : Int) < 2 ^ 63 ∧ found.length < sizeLine := ⟨Int.le_trans (by decide) (Int.natCast_nonneg m), Int.lt_of_lt_of_le (Int.ofNat_lt.mpr (show m < 1000000 by omega)) (by decide), Nat.lt_of_lt_of_le hf (by rw [sizeLine_eq]; decide)⟩
  exact app_pop0 (by decide) rfl rfl e c si (List.getElem?_eq_getElem hm)
theorem perm_erase {α : Type} : ∀ {l : List α} {m : Nat} (h : m < l.length), (l[m] :: l.eraseIdx m).Perm l
  | a :: l, 0, _ => by simp
  | a :: l, m + 1, h => by
    have ih := perm_erase (l := l) (m := m) (by simpa using h)
    rw [List.getElem_cons_succ, List.eraseIdx_cons_succ]
    exact (List.Perm.swap _ _ _).trans (ih.cons a)
noncomputable def shufBody : DS := (sSeq (sAppPop 3 2 (eFn 2 d__law_draw (lCons (eVar 0) (lCons (eCall (g1 gLen) (lCons (eVb 2) lNil)) lNil))))
  sSkip)
theorem shuf_loop {p : Pen} {x : D} {xs : List D} (hp : PenOk p) (hb : xs.length < 1000000) : W (forGo (bNm 4) shufBody ((List.range xs.length).map fun i : Nat => D.int i) [.sh .pen, .sh x, .own xs, .own [], .no] p) fun o p' => ∃ ρ2, o = .nx ρ2 ∧ ∃ left found c, ρ2 = [.sh .pen, .sh x, .own left, .own found, c] ∧ PenOk p' ∧ (found ++ left).Perm xs ∧ found.length = xs.length := by
  have := for_at (b := bNm 4) (s := shufBody) (n := 0) (xs := (List.range xs.length).map fun i : Nat => D.int i) (p := p) (ρ := [.sh .pen, .sh x, .own xs, .own [], .no])
      (I := fun n ρ p => ∃ left found c, ρ = [.sh .pen, .sh x, .own left, .own found, c] ∧ PenOk p ∧ (found ++ left).Perm xs ∧ found.length = n) ⟨xs, [], .no, rfl, hp, by simp, rfl⟩ fun j y hy ρ p hI => ?_
  · refine this.mono fun o p' h => ?_
    obtain ⟨ρ2, rfl, h⟩ := h
    refine ⟨ρ2, rfl, ?_⟩
    simpa using h
  · obtain ⟨left, found, c, rfl, hp, hperm, hl⟩ := hI
    refine ⟨[.sh .pen, .sh x, .own left, .own found, .sh y], rfl, ?_⟩
    have hj : j < xs.length := by
      have := (List.getElem?_eq_some_iff.mp hy).1
      simpa using this
    have hlen := hperm.length_eq
    rw [List.length_append] at hlen
    obtain ⟨d, p', e, hp', i, rfl, i0, i1⟩ := draw_ok (p := p) (m := left.length) hp (by omega) (by omega)
    obtain ⟨m, rfl⟩ := Int.eq_ofNat_of_zero_le i0
    have hm : m < left.length := by omega
    have ef : eFn 2 d__law_draw (lCons (eVar 0) (lCons (eCall (g1 gLen) (lCons (eVb 2) lNil)) lNil)) [.sh .pen, .sh x, .own left, .own found, .sh y] p = some (.int m, p') := by
      refine eq_of_W ?_
      simp
      exact ⟨_, _, e, rfl, rfl⟩
    unfold shufBody
    rw [w_seq, W_eq (app_pop hm (by omega) (by omega) ef), k_seq0, w_skip]
    refine ⟨_, .inl rfl, left.eraseIdx m, found ++ [left[m]], .sh y, rfl, hp', ?_, by simp [hl]⟩
    refine List.Perm.trans ?_ hperm
    rw [List.append_assoc, List.singleton_append]
    exact List.Perm.append_left _ (perm_erase hm)
theorem shuffled_ok {p : Pen} {x : D} {xs : List D} (hp : PenOk p) (hx : x = .lst xs ∨ x = .tup xs) (hb : xs.length < 1000000) : W (d__law_shuffled [.pen, x] p) fun d p' => PenOk p' ∧ ∃ ys, d = .lst ys ∧ ys.Perm xs := by
  have hits : x.its = some xs := by rcases hx with rfl | rfl <;> rfl
  have hlen : gLen x = some (.int xs.length) := by rcases hx with rfl | rfl <;> rfl
  have fin : W (forGo (bNm 4) shufBody ((List.range xs.length).map fun i : Nat => D.int i) [.sh .pen, .sh x, .own xs, .own [], .no] p) (kSeq (sSeq (sFz 3 (sRet (eVar 3))) sSkip) (kRes fun d p' => PenOk p' ∧ ∃ ys, d = .lst ys ∧ ys.Perm xs)) := (shuf_loop hp hb).mono fun o p' h => by
    obtain ⟨ρ2, rfl, left, found, c, rfl, hp', hperm, hl⟩ := h
    have h0 : left = [] := by
      have := hperm.length_eq
      rw [List.length_append] at this
      exact List.length_eq_zero_iff.mp (by omega)
    subst h0
    rw [List.append_nil] at hperm
    simp [frz1, hp']
    exact hperm
  have hr : ∀ Q : List D → Pen → Prop, Q ((List.range xs.length).map fun i : Nat => D.int i) p → W (iRng1 (eCall (g1 gLen) (lCons (eVar 1) lNil)) [.sh .pen, .sh x, .own xs, .own [], .no] p) Q := fun Q hQ => by
    rw [w_rng1]
    simp [hlen, rngOk_nat xs.length (by omega)]
    exact hQ
  unfold d__law_shuffled
  rw [w_fnD]
  refine ⟨rfl, ?_⟩
  unfold s__law_shuffled
  simp [envOf, hits, setAll]
  refine hr _ ?_
  exact fin
end Dn
set_option Elab.async false
set_option linter.all false
set_option maxRecDepth 100000
set_option maxHeartbeats 4000000
/-! Dn P: _law_pen. -/
namespace Dn
open PySem PySem.Spec PyProof.Rows L2

def penN : List Str := ["script", "fold", "cell"]
def foldAt : List Int → Int := List.foldl (fun f c => (f * 47 + c).fmod 1000000007) 0
def pen0 (ns : List Int) : Pen := { cells := ns, at_ := 0, digits := 0, count := 0, fold := foldAt ns }
def c1 (S : Sc) : Stmt → Bool
  | .Assign [.Name a _] (.Constant (.int i) _ _) _ => storeC penN S 1 a && decide (i = 0)
  | _ => false
def c2 (S : Sc) : Expr → Bool
  | .BinOp (.BinOp (.Name a6 _) .Mult (.Constant (.int i1) _ _) _) .Add (.Name a7 _) _ => varC penN S 1 a6 && decide (i1 = 47) && varC penN S 2 a7
  | _ => false
def c3 (S : Sc) : Expr → Bool
  | .BinOp (.Call (.Name a5 _) [e] [] _) .Mod (.Constant (.int i2) _ _) _ => nameIs S "int" a5 && c2 S e && decide (i2 = 1000000007) && notStar e
  | _ => false
def c4 (S : Sc) : Stmt → Bool
  | .Assign [.Name a4 _] e _ => storeC penN S 1 a4 && c3 S e && notComp e
  | _ => false
def c5 (S : Sc) : Stmt → Bool
  | .For (.Name a2 _) (.Name a3 _) [st] [] _ => storeC penN S 2 a2 && varC penN S 0 a3 && c4 S st
  | _ => false
def cKey (x : Str) : Option Expr → Bool
  | some (.Constant (.str s) _ _) => decide (s = x)
  | _ => false
def cZ : Expr → Bool
  | .Constant (.int i) _ _ => decide (i = 0)
  | _ => false
def cLs (S : Sc) : Expr → Bool
  | .Call (.Name a8 _) [.Name a9 _] [] _ => nameIs S "list" a8 && varC penN S 0 a9
  | _ => false
def cFd (S : Sc) : Expr → Bool
  | .Name a _ => varC penN S 1 a
  | _ => false
def c6 (S : Sc) : Expr → Bool
  | .Dict [k1, k2, k3, k4, k5] [v1, v2, v3, v4, v5] _ => cKey "cells" k1 && cKey "at" k2 && cKey "digits" k3 && cKey "count" k4 && cKey "fold" k5 && cLs S v1 && cZ v2 && cZ v3 && cZ v4 && cFd S v5
  | _ => false
def c7 (S : Sc) : Stmt → Bool
  | .Return (some e) _ => c6 S e
  | _ => false
def penC (S : Sc) : List Stmt → Bool
  | [s1, s2, s3] => c1 S s1 && c5 S s2 && c7 S s3
  | _ => false
abbrev rIntC : List V → Hp → VK → Prop := fun xs H Q => (∃ i, xs = [.int i] ∧ Q (.int i) H) ∨ ∃ k, xs = [.bl k] ∧ Q (.int (if k then 1 else 0)) H
abbrev rListC (K : PySem.W.Frag) : List V → Hp → VK → Prop := fun xs H Q => ∃ p ys, xs = [.ref p] ∧ (SqL K H p ys ∨ SqT K H p ys) ∧ ∀ l, H l = none → Q (.ref l) (upd H l (.lst ys))
def tFold : TE := tOp (rI (fun _ j => j ≠ 0) fun i j => .int (i.fmod j)) (tCB rIntC (tCons (tOp (rI0 fun i j => .int (i + j)) (tOp (rI CMul fun i j => .int (i * j)) (tVar 1) (tC (.int 47))) (tVar 2)) tNil)) (tC (.int 1000000007))
def tPen (K : PySem.W.Frag) : TS := tSeq (tAsg (tC (.int 0)) (gName 1)) (tSeq (tFor (fun σ H R => tVar 0 σ H fun x H1 => rSeqI K x H1 R) (gName 2) (tSeq (tAsg tFold (gName 1)) tNext))
  (tSeq (tRet (tDisp [(tC (.str "cells"), tCB (rListC K) (tCons (tVar 0) tNil)), (tC (.str "at"), tC (.int 0)), (tC (.str "digits"), tC (.int 0)), (tC (.str "count"), tC (.int 0)), (tC (.str "fold"), tVar 1)])) tNext))
section
variable {T : Tab} {k : Nat} {S : Sc} {X : Cx}
theorem w1 (h : XOk T k penN S X) {st : Stmt} (c : c1 S st = true) : PS X st (tAsg (tC (.int 0)) (gName 1)) := by
  unfold c1 at c
  split at c
  · rw [Bool.and_eq_true, decide_eq_true_eq] at c
    obtain ⟨c, rfl⟩ := c
    obtain ⟨a1, a2, a3⟩ := store_of h c
    exact ps_set (nod h) a1 a2 pe_int (by rfl) a3
  · cases c
theorem w2 (h : XOk T k penN S X) {e : Expr} (c : c2 S e = true) : PE X e (tOp (rI0 fun i j => .int (i + j)) (tOp (rI CMul fun i j => .int (i * j)) (tVar 1) (tC (.int 47))) (tVar 2)) := by
  unfold c2 at c
  split at c
  · simp only [Bool.and_eq_true, decide_eq_true_eq] at c
    obtain ⟨⟨c1, rfl⟩, c2⟩ := c
    obtain ⟨f1, f2, f3, f4⟩ := var_of h c1
    obtain ⟨k1, k2, k3, k4⟩ := var_of h c2
    exact pe_op op_add (pe_op op_mul (pe_var f1 f2 f3 f4) pe_int) (pe_var k1 k2 k3 k4)
  · cases c
theorem w3 (h : XOk T k penN S X) {e : Expr} (c : c3 S e = true) : PE X e tFold := by
  unfold c3 at c
  split at c
  · simp only [Bool.and_eq_true, decide_eq_true_eq] at c
    obtain ⟨⟨⟨c1, c2⟩, rfl⟩, c4⟩ := c
    obtain ⟨rfl, g1, g2⟩ := name_of h c1
    exact pe_op op_modN (pe_callTy call_int1 g1 (h.free "int" (by decide)) (by decide +kernel) (pa_cons (w2 h c2) pa_nil (star_plain c4)) (by decide) (by decide +kernel) (star_plain c4) (by rfl)) pe_int
  · cases c
theorem w4 (h : XOk T k penN S X) {st : Stmt} (c : c4 S st = true) : PS X st (tAsg tFold (gName 1)) := by
  unfold c4 at c
  split at c
  · simp only [Bool.and_eq_true] at c
    obtain ⟨a1, a2, a3⟩ := store_of h c.1.1
    exact ps_set (nod h) a1 a2 (w3 h c.1.2) (swaps_plain c.2) a3
  · cases c
theorem w5 (h : XOk T k penN S X) {st : Stmt} (c : c5 S st = true) : PS X st (tFor (fun σ H R => tVar 0 σ H fun x H1 => rSeqI X.K x H1 R) (gName 2) (tSeq (tAsg tFold (gName 1)) tNext)) := by
  unfold c5 at c
  split at c
  · simp only [Bool.and_eq_true] at c
    obtain ⟨b1, b2, b3⟩ := store_of h c.1.1
    obtain ⟨d1, d2, d3, d4⟩ := var_of h c.1.2
    exact ps_for (passes h) h.calm (pi_seq (pe_var d1 d2 d3 d4)) (pg_name (nod h) b1 b2 b3) (pss_cons (w4 h c.2) pss_nil) (by intro _; rfl)
  · cases c
theorem wKey {x : Str} {o : Option Expr} (c : cKey x o = true) : ∃ e, o = some e ∧ PE X e (tC (.str x)) := by
  unfold cKey at c
  split at c
  · cases of_decide_eq_true c
    exact ⟨_, rfl, pe_str⟩
  · cases c
theorem wZ {e : Expr} (c : cZ e = true) : PE X e (tC (.int 0)) := by
  unfold cZ at c
  split at c
  · cases of_decide_eq_true c
    exact pe_int
  · cases c
theorem wLs (h : XOk T k penN S X) {e : Expr} (c : cLs S e = true) : PE X e (tCB (rListC X.K) (tCons (tVar 0) tNil)) := by
  unfold cLs at c
  split at c
  · rw [Bool.and_eq_true] at c
    obtain ⟨rfl, l1, l2⟩ := name_of h c.1
    obtain ⟨m1, m2, m3, m4⟩ := var_of h c.2
    exact pe_callTy call_list_of l1 (h.free "list" (by decide)) (by decide +kernel) (pa_cons (pe_var m1 m2 m3 m4) pa_nil (by rfl)) (by decide) (by decide +kernel) (by rfl) (by rfl)
  · cases c
theorem wFd (h : XOk T k penN S X) {e : Expr} (c : cFd S e = true) : PE X e (tVar 1) := by
  unfold cFd at c
  split at c
  · obtain ⟨m1, m2, m3, m4⟩ := var_of h c
    exact pe_var m1 m2 m3 m4
  · cases c
theorem w6 (h : XOk T k penN S X) {e : Expr} (c : c6 S e = true) : PE X e (tDisp [(tC (.str "cells"), tCB (rListC X.K) (tCons (tVar 0) tNil)), (tC (.str "at"), tC (.int 0)), (tC (.str "digits"), tC (.int 0)), (tC (.str "count"), tC (.int 0)), (tC (.str "fold"), tVar 1)]) := by
  unfold c6 at c
  split at c
  · simp only [Bool.and_eq_true] at c
    obtain ⟨⟨⟨⟨⟨⟨⟨⟨⟨k1, k2⟩, k3⟩, k4⟩, k5⟩, v1⟩, v2⟩, v3⟩, v4⟩, v5⟩ := c
    obtain ⟨e1, rfl, q1⟩ := wKey (X := X) k1
    obtain ⟨e2, rfl, q2⟩ := wKey (X := X) k2
    obtain ⟨e3, rfl, q3⟩ := wKey (X := X) k3
    obtain ⟨e4, rfl, q4⟩ := wKey (X := X) k4
    obtain ⟨e5, rfl, q5⟩ := wKey (X := X) k5
    exact pe_disp (pps_cons q1 (wLs h v1) (pps_cons q2 (wZ v2) (pps_cons q3 (wZ v3) (pps_cons q4 (wZ v4) (pps_cons q5 (wFd h v5) pps_nil))))) (by rfl) (by rfl) (by intro z; cases z) (by simp)
  · cases c
theorem w7 (h : XOk T k penN S X) {st : Stmt} (c : c7 S st = true) : PS X st (tRet (tDisp [(tC (.str "cells"), tCB (rListC X.K) (tCons (tVar 0) tNil)), (tC (.str "at"), tC (.int 0)), (tC (.str "digits"), tC (.int 0)), (tC (.str "count"), tC (.int 0)), (tC (.str "fold"), tVar 1)])) := by
  unfold c7 at c
  split at c
  · exact ps_ret (w6 h c)
  · cases c
end
theorem pen_walk {T : Tab} {k : Nat} {S : Sc} {X : Cx} (h : XOk T k penN S X) {body : List Stmt} (c : penC S body = true) : PSs X body (tPen X.K) := by
  unfold penC at c
  split at c
  · simp only [Bool.and_eq_true] at c
    exact pss_cons (w1 h c.1.1) (pss_cons (w5 h c.1.2) (pss_cons (w7 h c.2) pss_nil))
  · cases c
/-- what _law_pen promises -/
def spPen (K : PySem.W.Frag) : Sp := fun vs H Q _ => ∃ (a : Addr) (ns : List Int), vs = [.ref a] ∧ SqL K H a (ns.map V.int) ∧ ns.length ≤ sizeLine ∧
  ∀ L P H', H L = none → H P = none → P ≠ L → (∀ b, b ≠ L → b ≠ P → H' b = H b) → H' L = some (.lst (ns.map V.int)) → H' P = some (.dK (penKvs L (pen0 ns))) → Q (.ref P) H'
theorem fold_lt (ns : List Int) : 0 ≤ foldAt ns ∧ foldAt ns < 1000000007 := by
  have key : ∀ (ns : List Int) (f : Int), 0 ≤ f ∧ f < 1000000007 → 0 ≤ List.foldl (fun f c => (f * 47 + c).fmod 1000000007) f ns ∧ List.foldl (fun f c => (f * 47 + c).fmod 1000000007) f ns < 1000000007 := by
    intro ns
    induction ns with
    | nil => exact fun f h => h
    | cons n ns ih => exact fun f _ => ih _ ⟨Int.fmod_nonneg_of_pos _ (by decide), Int.fmod_lt_of_pos _ (by decide)⟩
  exact key ns 0 (by decide)
theorem pen_pure {K : PySem.W.Frag} (vs : List V) (H : Hp) (Q : VK) (E : XK) (h : spPen K vs H Q E) : tPen K { nx := fun _ H' => Q .non H', rt := Q } (start penN vs) H := by
  obtain ⟨a, ns, rfl, hS, hl, hQ⟩ := h
  have hfold : ∀ (m : Nat) (_ : m < ns.length), foldAt (ns.take (m + 1)) = (foldAt (ns.take m) * 47 + ns[m]).fmod 1000000007 := fun m hm => by
    unfold foldAt
    rw [List.take_succ_eq_append_getElem hm, List.foldl_append]
    rfl
  refine ⟨.ref a, rfl, .inl ⟨a, rfl, ⟨_, hS⟩, ?_⟩⟩
  refine ⟨fun i m σ H1 => m = ns.length - i ∧ i ≤ ns.length ∧ H1 = H ∧ σ[0]? = some (some (.ref a)) ∧ σ[1]? = some (some (.int (foldAt (ns.take i)))) ∧ σ.length = 3, ⟨ns.length, by simp, Nat.zero_le _, rfl, rfl, rfl, rfl⟩, ?_⟩
  rintro i m σ H1 ⟨rfl, hi, rfl, s0, s1, s3⟩
  have w := walk_list (K := K) (a := a) (xs := ns.map V.int)
  have len : (ns.map V.int).length = ns.length := List.length_map _
  by_cases hlt : i < ns.length
  · refine .inr ⟨w.goes i H1 (by rw [len]; exact hlt) hS, fun σ' H' => H' = H1 ∧ σ'[0]? = some (some (.ref a)) ∧ σ'[1]? = some (some (.int (foldAt (ns.take (i + 1))))) ∧ σ'.length = 3, fun σ' H' q => ⟨ns.length - (i + 1), by omega, rfl, by omega, q⟩, fun x H' y => ?_⟩
    obtain ⟨rfl, yx⟩ := w.yields i H1 x H' (by rw [len]; exact hlt) hS y
    rw [List.getElem?_map, List.getElem?_eq_getElem hlt] at yx
    cases yx
    have f := fold_lt (ns.take i)
    refine ⟨.int (foldAt (ns.take i)), by rw [List.getElem?_set_ne (by decide)]; exact s1, foldAt (ns.take i), 47, rfl, rfl, .inl ⟨by omega, by omega⟩, .int ns[i], by rw [List.getElem?_set_self (by omega)], _, _, rfl, rfl, ?_⟩
    refine .inl ⟨_, rfl, _, _, rfl, rfl, (by show (1000000007 : Int) ≠ 0; decide), ?_⟩
    refine ⟨rfl, ?_, ?_, by simp [s3]⟩
    · rw [List.getElem?_set_ne (by decide), List.getElem?_set_ne (by decide)]
      exact s0
    · rw [List.getElem?_set_self (by simp [s3]), hfold i hlt]
  · have ei : i = ns.length := by omega
    refine .inl ⟨by rw [ei, ← len]; exact w.stops H1 hS, ?_⟩
    rw [ei, List.take_length] at s1
    intro P hP
    refine ⟨.ref a, s0, a, ns.map V.int, rfl, .inl ?_, fun L hL => ⟨.int (foldAt ns), s1, ?_⟩⟩
    · rcases hS with (q | ⟨o, q⟩) | q
      · exact .inl (.inl (by rw [upd_ne (ne_of_none q hP)]; exact q))
      · exact .inl (.inr ⟨o, by rw [upd_ne (ne_of_none q hP)]; exact q⟩)
      · exact .inr q
    · have PL : P ≠ L := fun z => by
        subst z
        rw [upd_same] at hL
        cases hL
      have hL0 : H1 L = none := by rw [upd_ne (Ne.symm PL)] at hL; exact hL
      refine ⟨by rw [upd_ne PL, upd_same], penKvs L (pen0 ns), rfl, (by show 5 ≤ 15; decide), ?_⟩
      refine hQ L P _ hL0 hP PL (fun b h1 h2 => ?_) ?_ ?_
      · rw [upd_ne h2, upd_ne h1, upd_ne h2]
      · rw [upd_ne (Ne.symm PL), upd_same]
      · rw [upd_same]
        rfl
end Dn
set_option Elab.async false
set_option linter.all false
set_option maxRecDepth 100000
set_option maxHeartbeats 4000000
/-! Dn H: the head's facts, defs known by their certificates, the law's end. -/
namespace Dn
open PySem PySem.Spec PyProof.Rows L2

def clsB : Stmt → List Stmt
  | .ClassDef (body := b) .. => b
  | _ => []
inductive Lit where
  | int (i : Int) | str (z : Str)
def Lit.d : Lit → D
  | .int i => .int i
  | .str z => .str z
def Lit.fa (x : Str) : Lit → He.Fa
  | .int i => .int x i
  | .str z => .str x z
structure Spec where
  defs : List He.DefD
  cls : List String
  ins : List (String × List String)
  mks : List String
  cons : List (String × Lit)
  mts : List (String × String) := []
def kitB (K : PySem.W.Frag) (cs : List String) : Bool := cs.all fun c => (baseTys.all fun t => decide (PySem.W.kitOne K (.type t) (.ref (He.ga K c)) = some false) && decide (PySem.W.kitOne K (.ref (He.ga K c)) (.type t) = some false)) &&
  cs.all fun d => decide (PySem.W.kitOne K (.ref (He.ga K c)) (.ref (He.ga K d)) = some (decide (c = d)))
def insB (K : PySem.W.Frag) (q : String × List String) : Bool := (He.Fa.cls q.1).ok K && q.2.all (fun f => (He.Fa.noat q.1 f).ok K) && He.eqO (PySem.W.findIn K (.ref (He.ga K q.1)) "__class__") (some (some (.builtin "object.__class__"))) &&
  He.eqO (PySem.W.specialIn K (.builtin "object.__class__") "__get__") (some (some (.builtin "getset_descriptor.__get__"))) && decide (PySem.W.takesIn K (.builtin "object.__class__") = some true) && decide (PySem.W.mroIn K (He.ga K q.1) (.type "object") = some true)
def gloB (K : PySem.W.Frag) (d : He.DefD) : Bool := match d.at_.2 with
  | none => (He.Fa.glo d.at_.1).ok K
  | some _ => true
def Spec.ok (Z : Spec) (K : PySem.W.Frag) : Bool := freeNames.all (fun x => (He.Fa.free x).ok K) && Z.cls.all (fun c => (He.Fa.glo c).ok K) && kitB K Z.cls && Z.ins.all (insB K) && Z.mks.all (fun c => (He.Fa.glo c).ok K && (He.Fa.mkr c).ok K) &&
  Z.cons.all (fun q => (q.2.fa q.1).ok K) && Z.defs.all (fun d => d.ok K && gloB K d) && Z.mts.all (fun q => (He.Fa.meth q.1 q.2).ok K)
abbrev AlZ : Type := Bool × List He.FnW
def Spec.obs (Z : Spec) (K : PySem.W.Frag) : AlZ := (Z.ok K, Z.defs.map fun d => He.fnW K d.at_)
def Spec.val (Z : Spec) : AlZ := (true, Z.defs.map He.DefD.val)
def Spec.says (Z : Spec) (K : PySem.W.Frag) : Prop := Z.obs K = Z.val
def obsZ (n : Nat) (Z : Spec) (g : Addr → Option Obj) : AlZ := Z.obs (He.frG g (He.asD g n))
def hookZ (n : Nat) (Z : Spec) : PySem.W.Hook where
  α := AlZ
  obs := fun s => obsZ n Z s.heap.get?
  val := fun _ => Z.val
  says := fun _ h => ∃ K : PySem.W.Frag, K.In h ∧ Z.says K
  of := fun _ _ e => ⟨_, He.frG_in, e⟩
  keeps := fun _ _ _ ⟨K, hK, c⟩ k => ⟨K, PySem.W.Frag.In.keeps hK k, c⟩
theorem obsZ_eq {n : Nat} {Z : Spec} {g : Addr → Option Obj} {s : Shared} (h : ∀ a, g a = s.heap.get? a) : obsZ n Z g = (hookZ n Z).obs s := by
  have e : g = s.heap.get? := funext h
  rw [e] <;> rfl
/-- what a law leans on -/
structure En (Z : Spec) (K : PySem.W.Frag) (mg : Str → Option Value) : Prop where
  free : ∀ x ∈ freeNames, mg x = none
  isi : IsiFact K Z.cls
  cls : ∀ c ∈ Z.cls, mg c = some (.ref (He.ga K c))
  ins : ∀ q ∈ Z.ins, InsFact K q.1 q.2
  mks : ∀ c ∈ Z.mks, mg c = some (.ref (He.ga K c)) ∧ Mk K (He.ga K c) (He.ma K (He.ga K c) "__init__")
  cons : ∀ q ∈ Z.cons, ∃ u v, mg q.1 = some u ∧ RelV v u ∧ ∀ P F, Rep K P F q.2.d v
  defs : ∀ (i : Nat) (d : He.DefD), Z.defs[i]? = some d → ∃ fd, FunD K d.name d.qual d.params d.body d.scope (d.dvs K) (d.kws K) (He.fAd K d.at_) fd
  mts : ∀ q ∈ Z.mts, Meth K (He.ga K q.1) q.2 (He.ma K (He.ga K q.1) q.2)
  glo : ∀ (i : Nat) (d : He.DefD), Z.defs[i]? = some d → d.at_.2 = none → mg d.at_.1 = some (.ref (He.fAd K d.at_))
theorem en_of {Z : Spec} {K : PySem.W.Frag} {h : Heap} {mg : Str → Option Value} (X : K.In h) (G : h.Ns mainGlobals mg) (c : Z.says K) : En Z K mg := by
  have c1 : Z.ok K = true := congrArg (fun z : AlZ => z.1) c
  have c2 : Z.defs.map (fun d => He.fnW K d.at_) = Z.defs.map He.DefD.val := congrArg (fun z : AlZ => z.2) c
  unfold Spec.ok at c1
  simp only [Bool.and_eq_true, List.all_eq_true] at c1
  obtain ⟨⟨⟨⟨⟨⟨⟨k1, k2⟩, k3⟩, k4⟩, k5⟩, k6⟩, k7⟩, k8⟩ := c1
  refine ⟨fun x hx => He.free_ok X G (k1 x hx), ?_, fun c hc => He.glo_ok X G (k2 c hc), fun q hq => ?_, fun c hc => ?_, fun q hq => ?_, fun i d hd => ?_, fun q hq => He.meth_ok (k8 q hq), fun i d hd e => ?_⟩
  · unfold kitB at k3
    simp only [List.all_eq_true, Bool.and_eq_true, decide_eq_true_eq] at k3
    exact ⟨fun c hc t ht => ((k3 c hc).1 t ht).1, fun c hc t ht => ((k3 c hc).1 t ht).2, fun c hc d hd => (k3 c hc).2 d hd⟩
  · have q1 := k4 q hq
    unfold insB at q1
    simp only [Bool.and_eq_true, List.all_eq_true, decide_eq_true_eq] at q1
    obtain ⟨⟨⟨⟨⟨h1, h2⟩, h3⟩, h4⟩, h5⟩, h6⟩ := q1
    exact ⟨He.cls_ok h1, fun f hf => He.noat_ok (h2 f hf), He.eqO_ok h3, He.eqO_ok h4, h5, h6⟩
  · exact ⟨He.glo_ok X G (k5 c hc).1, He.mkr_ok (k5 c hc).2⟩
  · have q1 := k6 q hq
    obtain ⟨x, l⟩ := q
    cases l with
    | int i =>
      obtain ⟨t, e⟩ := He.int_ok X G q1
      exact ⟨_, .int i, e, ⟨t, rfl⟩, fun P F => r_int⟩
    | str z =>
      obtain ⟨t, e⟩ := He.str_ok X G q1
      exact ⟨_, .str z, e, ⟨t, rfl⟩, fun P F => r_str⟩
  · have e2 : (Z.defs.map fun d => He.fnW K d.at_)[i]? = (Z.defs.map He.DefD.val)[i]? := by rw [c2]
    rw [List.getElem?_map, List.getElem?_map, hd] at e2
    exact He.DefD.funD (Option.some.inj e2) (k7 d (List.mem_of_getElem? hd)).1
  · have q1 := (k7 d (List.mem_of_getElem? hd)).2
    unfold gloB at q1
    rw [e] at q1
    have q2 := He.glo_ok X G q1
    unfold He.fAd
    rw [e]
    exact q2

/-! ### defs that are known -/
section
variable {P : Program} {w : World} {K : PySem.W.Frag} {mg : Str → Option Value} {base : Heap}
def Known (P : Program) (w : World) (K : PySem.W.Frag) (mg : Str → Option Value) (base : Heap) (k : Nat) (x : String) (n : Nat) (m : Fn) : Prop :=
  ∃ f fd ps, FnOk P w K mg base CX0 k f fd ps (spOf K n m) ∧ mg x = some (.ref f) ∧ PySem.W.keepIn K (.ref f) = true ∧ Binds K fd ps []
def KnownI (P : Program) (w : World) (K : PySem.W.Frag) (mg : Str → Option Value) (base : Heap) (k : Nat) (c : String) (fl : List String) (n : Nat) (m : Fi) : Prop :=
  ∃ f fd ps, FnOk P w K mg base CX0 k f fd ps (spIni K c n m) ∧ Mk K (He.ga K c) f ∧ mg c = some (.ref (He.ga K c)) ∧ Binds K fd ps [] ∧ InsFact K c fl
theorem Known.mono {j k : Nat} {x : String} {n : Nat} {m : Fn} (h : Known P w K mg base j x n m) (l : j ≤ k) : Known P w K mg base k x n m := by
  obtain ⟨f, fd, ps, F, r⟩ := h
  exact ⟨f, fd, ps, F.mono l, r⟩
def AllK (P : Program) (w : World) (K : PySem.W.Frag) (mg : Str → Option Value) (base : Heap) (k : Nat) : List (String × Nat × Fn) → Prop
  | [] => True
  | q :: r => Known P w K mg base k q.1 q.2.1 q.2.2 ∧ AllK P w K mg base k r
def AllI (P : Program) (w : World) (K : PySem.W.Frag) (mg : Str → Option Value) (base : Heap) (k : Nat) : List (String × List String × Nat × Fi) → Prop
  | [] => True
  | q :: r => (∃ j, j + 1 ≤ k ∧ KnownI P w K mg base j q.1 q.2.1 q.2.2.1 q.2.2.2) ∧ AllI P w K mg base k r
theorem AllK.mem {k : Nat} : ∀ {l : List (String × Nat × Fn)}, AllK P w K mg base k l → ∀ q ∈ l, Known P w K mg base k q.1 q.2.1 q.2.2
  | [], _, q, hq => by simp at hq
  | a :: l, h, q, hq => by
    rcases List.mem_cons.mp hq with rfl | hq
    · exact h.1
    · exact AllK.mem h.2 q hq
theorem AllI.mem {k : Nat} : ∀ {l : List (String × List String × Nat × Fi)}, AllI P w K mg base k l → ∀ q ∈ l, ∃ j, j + 1 ≤ k ∧ KnownI P w K mg base j q.1 q.2.1 q.2.2.1 q.2.2.2
  | [], _, q, hq => by simp at hq
  | a :: l, h, q, hq => by
    rcases List.mem_cons.mp hq with rfl | hq
    · exact h.1
    · exact AllI.mem h.2 q hq
def KnownM (P : Program) (w : World) (K : PySem.W.Frag) (mg : Str → Option Value) (base : Heap) (k : Nat) (c : String) (m : Str) (n : Nat) (f : Fn) : Prop :=
  ∃ g fd ps, FnOk P w K mg base CX0 k g fd ps (spOf K n f) ∧ Meth K (He.ga K c) m g ∧ Binds K fd ps []
theorem KnownM.mono {j k : Nat} {c : String} {m : Str} {n : Nat} {f : Fn} (h : KnownM P w K mg base j c m n f) (l : j ≤ k) : KnownM P w K mg base k c m n f := by
  obtain ⟨g, fd, ps, F, r⟩ := h
  exact ⟨g, fd, ps, F.mono l, r⟩
def AllM (P : Program) (w : World) (K : PySem.W.Frag) (mg : Str → Option Value) (base : Heap) (k : Nat) : List (String × Bool × Fn) → Prop
  | [] => True
  | q :: r => KnownM P w K mg base k q.1 (eqName q.2.1) 2 q.2.2 ∧ AllM P w K mg base k r
theorem AllM.mem {k : Nat} : ∀ {l : List (String × Bool × Fn)}, AllM P w K mg base k l → ∀ q ∈ l, KnownM P w K mg base k q.1 (eqName q.2.1) 2 q.2.2
  | [], _, q, hq => by simp at hq
  | a :: l, h, q, hq => by
    rcases List.mem_cons.mp hq with rfl | hq
    · exact h.1
    · exact AllM.mem h.2 q hq
def Spec.consD (Z : Spec) : List (String × D) := Z.cons.map fun q => (q.1, q.2.d)
/-- the table of a def of this text -/
def tab (Z : Spec) (fns : List (String × Nat × Fn)) (mks : List (String × List String × Nat × Fi)) (self : Option (String × List String)) (eqs : List (String × Bool × Fn) := []) : Tab := ⟨fns, mks, Z.cls, Z.consD, self, eqs⟩
theorem tab_ok {Z : Spec} {k : Nat} {fns : List (String × Nat × Fn)} {mks : List (String × List String × Nat × Fi)} {self : Option (String × List String)} {eqs : List (String × Bool × Fn)} (e : En Z K mg) (hf : AllK P w K mg base k fns) (hm : AllI P w K mg base k mks) (hs : ∀ q, self = some q → q ∈ Z.ins) (he : AllM P w K mg base k eqs) : TabOk (tab Z fns mks self eqs) k P w K mg base where
  free := e.free
  fns := hf.mem
  mks := fun q hq => by
    obtain ⟨j, hj, r⟩ := hm.mem q hq
    exact ⟨j, hj, r⟩
  isi := e.isi
  cls := e.cls
  cons := fun q hq => by
    obtain ⟨z, hz, rfl⟩ := List.mem_map.mp hq
    exact e.cons z hz
  self := fun q hq => ⟨(e.ins q (hs q hq)).cl, (e.ins q (hs q hq)).na⟩
  eqs := he.mem
def scB (N ps : List Str) (sc : Scope) : Bool := (match sc.kind with
  | .function => true
  | _ => false) && !sc.isCoroutine && !sc.isGenerator && decide N.Nodup && decide (N.take ps.length = ps) && (ps.all fun x => match sc.names.lookup x with
  | some .local => true
  | some .cell => true
  | _ => false) && sc.names.all fun y => match y.2 with
  | .free => false
  | _ => true
theorem sc_of {N ps : List Str} {sc : Scope} (h : scB N ps sc = true) : FnScope N ps sc := by
  unfold scB at h
  simp only [Bool.and_eq_true, List.all_eq_true, decide_eq_true_eq, Bool.not_eq_true'] at h
  obtain ⟨⟨⟨⟨⟨⟨h1, h2⟩, h3⟩, h4⟩, h5⟩, h6⟩, h7⟩ := h
  refine ⟨?_, h2, h3, h4, h5, fun x hx => ?_, fun y hy z => ?_⟩
  · split at h1
    · assumption
    · cases h1
  · have q := h6 x hx
    split at q <;> first | exact .inl (by assumption) | exact .inr (by assumption) | cases q
  · have q := h7 y hy
    rw [z] at q
    cases q
theorem take_len {N ps : List Str} (h : N.take ps.length = ps) : ps.length ≤ N.length := by
  have := congrArg List.length h
  rw [List.length_take] at this
  omega
/-- what binds a def's parameters -/
def BindP (d : He.DefD) (ps : List Str) : Prop := ∀ (kV doc pm : Value) (an : Option Addr) (cdv ct : Value) (us : List Value), us.length = ps.length → bindArgs (PySem.W.fnOf d.name d.qual d.params d.body d.scope .none kV doc pm an cdv ct) ⟨us, []⟩ = pure (ps.zip us)
theorem known_of {Z : Spec} {T : Tab} {k i : Nat} {d : He.DefD} {x : String} {N ps : List Str} {s : QS} (e : En Z K mg) (t : TabOk T k P w K mg base) (hd : Z.defs[i]? = some d) (hat : d.at_ = ((x : Str), none)) (hdf : d.dfl = []) (hkw : d.kwd = []) (hb : BindP d ps)
    (c : (scB N ps d.scope && okB T N ⟨d.scope, d.scope⟩ s d.body) = true) : Known P w K mg base (k + 1) x ps.length (fnD ps.length N.length (denS T s)) := by
  rw [Bool.and_eq_true] at c
  obtain ⟨fd, F⟩ := e.defs i d hd
  have g := e.glo i d hd (by rw [hat])
  have S := sc_of c.1
  unfold He.DefD.dvs He.DefD.kws at F
  rw [hdf, hkw] at F
  refine ⟨_, fd, ps, fn_ok t F S (take_len S.pre) fun X h => (sndS s).bd _ X _ h c.2, ?_, F.kp, F.bindsN hb⟩
  rw [hat] at g
  rw [hat]
  exact g
theorem knownI_of {Z : Spec} {T : Tab} {k i n : Nat} {d : He.DefD} {x : String} {fl : List String} {N ps : List Str} {s : QS} (e : En Z K mg) (t : TabOk T k P w K mg base) (hd : Z.defs[i]? = some d) (hat : d.at_ = ((x : Str), some ("__init__" : Str))) (hdf : d.dfl = []) (hkw : d.kwd = []) (hb : BindP d ps) (hn : ps.length = n + 1)
    (hm : x ∈ Z.mks) (hi : (x, fl) ∈ Z.ins) (c : (scB N ps d.scope && okB T N ⟨d.scope, d.scope⟩ s d.body) = true) : KnownI P w K mg base (k + 1) x fl n (iniD x n N.length (denS T s)) := by
  rw [Bool.and_eq_true] at c
  obtain ⟨fd, F⟩ := e.defs i d hd
  have S := sc_of c.1
  unfold He.DefD.dvs He.DefD.kws at F
  rw [hdf, hkw, hat] at F
  obtain ⟨m1, m2⟩ := e.mks x hm
  exact ⟨_, fd, ps, ini_ok t F S hn (take_len S.pre) fun X h => (sndS s).bd _ X _ h c.2, m2, m1, F.bindsN hb, e.ins _ hi⟩
theorem knownM_of {Z : Spec} {T : Tab} {k i : Nat} {d : He.DefD} {x m : String} {N ps : List Str} {s : QS} (e : En Z K mg) (t : TabOk T k P w K mg base) (hd : Z.defs[i]? = some d) (hat : d.at_ = ((x : Str), some (m : Str))) (hdf : d.dfl = []) (hkw : d.kwd = []) (hb : BindP d ps)
    (hm : (x, m) ∈ Z.mts) (c : (scB N ps d.scope && okB T N ⟨d.scope, d.scope⟩ s d.body) = true) : KnownM P w K mg base (k + 1) x m ps.length (fnD ps.length N.length (denS T s)) := by
  rw [Bool.and_eq_true] at c
  obtain ⟨fd, F⟩ := e.defs i d hd
  have S := sc_of c.1
  unfold He.DefD.dvs He.DefD.kws at F
  rw [hdf, hkw, hat] at F
  exact ⟨_, fd, ps, fn_ok t F S (take_len S.pre) fun X h => (sndS s).bd _ X _ h c.2, e.mts _ hm, F.bindsN hb⟩
/-- a def of which nothing is promised -/
theorem known_none {Z : Spec} {i k : Nat} {d : He.DefD} {x : String} {N ps : List Str} (e : En Z K mg) (hd : Z.defs[i]? = some d) (hat : d.at_ = ((x : Str), none)) (hdf : d.dfl = []) (hkw : d.kwd = []) (hb : BindP d ps)
    (c : scB N ps d.scope = true) : Known P w K mg base (k + 1) x ps.length fun _ _ => none := by
  obtain ⟨fd, F⟩ := e.defs i d hd
  have g := e.glo i d hd (by rw [hat])
  unfold He.DefD.dvs He.DefD.kws at F
  rw [hdf, hkw] at F
  refine ⟨_, fd, ps, F.ok (sc_of c) (fun vs H Q E h => ?_) (fun cdv A outer sh H vs Q E hr h => ?_), ?_, F.kp, F.bindsN hb⟩
  · obtain ⟨_, _, _, _, _, _, _, _, _, _, h, _⟩ := h
    cases h
  · obtain ⟨_, _, _, _, _, _, _, _, _, _, h, _⟩ := h
    cases h
  · rw [hat] at g
    rw [hat]
    exact g
/-- _law_pen -/
theorem pen_known {Z : Spec} {i : Nat} {d : He.DefD} (e : En Z K mg) (hd : Z.defs[i]? = some d) (hat : d.at_ = (("_law_pen" : Str), none)) (hdf : d.dfl = []) (hkw : d.kwd = []) (hb : BindP d ["script"])
    (c : (scB penN ["script"] d.scope && penC ⟨d.scope, d.scope⟩ d.body) = true) : ∃ f fd, FnOk P w K mg base CX0 1 f fd ["script"] (spPen K) ∧ mg "_law_pen" = some (.ref f) ∧ PySem.W.keepIn K (.ref f) = true ∧ Binds K fd ["script"] [] := by
  rw [Bool.and_eq_true] at c
  obtain ⟨fd, F⟩ := e.defs i d hd
  have g := e.glo i d hd (by rw [hat])
  have S := sc_of c.1
  unfold He.DefD.dvs He.DefD.kws at F
  rw [hdf, hkw] at F
  have t : TabOk (tab Z [] [] none) 0 P w K mg base := tab_ok e trivial trivial (fun q hq => by cases hq) trivial
  refine ⟨_, fd, F.ok S (fun vs H Q E h => ?_) (fun cdv A outer sh H vs Q E hr h => ⟨tPen K, PSs.nox (pen_walk (xok_def t S hr) c.2), pen_pure vs H Q E h⟩), ?_, F.kp, F.bindsN hb⟩
  · obtain ⟨a, ns, rfl, _⟩ := h
    rfl
  · rw [hat] at g
    rw [hat]
    exact g

/-! ### the law's def: pen = _law_pen(script), and the rest -/
def lawC (N : List Str) (S : Sc) : List Stmt → Option (Nat × List Stmt)
  | .Assign [.Name x _] (.Call (.Name f _) [.Name y _] [] _) _ :: rest => match N.idxOf? x with
    | some i => if (storeC N S i x && nameIs S "_law_pen" f && varC N S 0 y && decide (i ≠ 0)) = true then some (i, rest) else none
    | none => none
  | _ => none
def lawEnv (m i : Nat) : Env := (List.replicate m Cell.no).set i (.sh .pen)
def spLaw (K : PySem.W.Frag) (m i : Nat) (s : DS) : Sp := fun vs H Q _ => ∃ (a : Addr) (ns : List Int), vs = [.ref a] ∧ SqL K H a (ns.map V.int) ∧ ns.length ≤ sizeLine ∧ (∃ p, s (lawEnv m i) (pen0 ns) = some (.rt (.bl true), p)) ∧ ∀ H', Q (.bl true) H'
theorem law_known {Z : Spec} {T : Tab} {k i j : Nat} {d : He.DefD} {N : List Str} {s : QS} {rest : List Stmt} (e : En Z K mg) (t : TabOk T (k + 1) P w K mg base) (hd : Z.defs[i]? = some d) (hdf : d.dfl = []) (hkw : d.kwd = [])
    (hp : ∃ f fd, FnOk P w K mg base CX0 1 f fd ["script"] (spPen K) ∧ mg "_law_pen" = some (.ref f) ∧ PySem.W.keepIn K (.ref f) = true ∧ Binds K fd ["script"] [])
    (hl : lawC N ⟨d.scope, d.scope⟩ d.body = some (j, rest)) (c : (scB N ["script"] d.scope && okB T N ⟨d.scope, d.scope⟩ s rest) = true) :
    ∀ fd, FunD K d.name d.qual d.params d.body d.scope (d.dvs K) (d.kws K) (He.fAd K d.at_) fd → FnOk P w K mg base CX0 (k + 2) (He.fAd K d.at_) fd ["script"] (spLaw K N.length j (denS T s)) := by
  intro fd F
  rw [Bool.and_eq_true] at c
  have S := sc_of c.1
  unfold He.DefD.dvs He.DefD.kws at F
  rw [hdf, hkw] at F
  obtain ⟨fp, fdp, FP, gp, kp, bp⟩ := hp
  refine F.ok S (fun vs H Q E h => ?_) (fun cdv A outer sh H vs Q E hr h => ?_)
  · obtain ⟨a, ns, rfl, _⟩ := h
    rfl
  · have X0 := xok_def (T := T) (qual := d.qual) (f := He.fAd K d.at_) (cdv := cdv) (A := A) (outer := outer) (s := sh) (H := H) (E := E) t S hr
    generalize hb : d.body = bd at hl
    unfold lawC at hl
    split at hl
    · rename_i x p1 g p2 y p3 p4 p5 rest'
      split at hl
      · rename_i i' hi'
        split at hl
        · rename_i hc
          simp only [Option.some.injEq, Prod.mk.injEq] at hl
          obtain ⟨rfl, rfl⟩ := hl
          simp only [Bool.and_eq_true, decide_eq_true_eq] at hc
          obtain ⟨⟨⟨c1, c2⟩, c3⟩, c4⟩ := hc
          obtain ⟨a1, a2, a3⟩ := store_of X0 c1
          obtain ⟨rfl, g1, g2⟩ := name_of X0 c2
          obtain ⟨d1, d2, d3, d4⟩ := var_of X0 c3
          refine ⟨_, PSs.nox (pss_cons (ps_set (nod X0) a1 a2 (pe_call FP (X0.room.mono (by omega)) g1 gp kp bp .nil pass0 (pa_cons (pe_var d1 d2 d3 d4) pa_nil (by rfl)) g2 (by rfl) (by rfl)) (by rfl) a3) ((sndS s).bd _ _ _ X0 c.2)), ?_⟩
          obtain ⟨a, ns, rfl, hS, hl, ⟨p, hs⟩, hQ⟩ := h
          refine ⟨.ref a, rfl, a, ns, rfl, hS, hl, fun L P0 H' hL hP PL hoth h1 h2 => ?_⟩
          have hlen : N.length ≥ 1 := by
            have := take_len S.pre
            simpa using this
          refine ⟨P0, fun b => if b = L then some (.lst (ns.map V.int)) else none, ⟨H', 0, 0⟩, fun b => if b = L then some (.lst (ns.map V.int)) else none, lawEnv N.length i', pen0 ns, .rt (.bl true), p, ?_, hs, fun v F' H2 s2 q2 r2 => ?_⟩
          · have sub : Sub (fun b => if b = L then some (HO.lst (ns.map V.int)) else none) H' := fun b o e => by
              have e : (if b = L then some (HO.lst (ns.map V.int)) else none) = some o := e
              split at e
              · rename_i z
                rw [z, h1]
                exact e
              · cases e
            refine ⟨Step.refl sub, ⟨⟨L, h2, if_pos rfl, hl⟩, if_neg PL⟩, ?_, fun m c hm => ?_, fun m1 m2 c1 c2 hne q1 q2 o1 => ?_⟩
            · unfold lawEnv L2.start
              simp
              omega
            · unfold lawEnv at hm
              by_cases hij : i' = m
              · subst hij
                have hi2 : i' < N.length := by
                  have := (List.getElem?_eq_some_iff.mp a1).1
                  exact this
                rw [List.getElem?_set_self (by simpa using hi2)] at hm
                cases hm
                refine ⟨some (.ref P0), ?_, .ref P0, rfl, rfl⟩
                rw [List.getElem?_set_self]
                unfold L2.start
                simp
                omega
              · rw [List.getElem?_set_ne hij, List.getElem?_replicate] at hm
                split at hm
                · rename_i hm2
                  cases hm
                  have : m < ((L2.start N [V.ref a]).set i' (some (V.ref P0))).length := by
                    unfold L2.start
                    simp
                    omega
                  exact ⟨_, List.getElem?_eq_getElem this, trivial⟩
                · cases hm
            · exfalso
              unfold lawEnv at q1
              by_cases hij : i' = m1
              · subst hij
                by_cases hlt : i' < (List.replicate N.length Cell.no).length
                · rw [List.getElem?_set_self hlt] at q1
                  cases q1
                  cases o1
                · rw [List.getElem?_eq_none (by simpa using hlt)] at q1
                  cases q1
              · rw [List.getElem?_set_ne hij, List.getElem?_replicate] at q1
                split at q1
                · cases q1
                  cases o1
                · cases q1
          · unfold Rep at r2
            subst r2
            exact hQ H2
        · cases hl
      · cases hl
    · cases hl
end
end Dn
set_option Elab.async false
set_option linter.all false
set_option maxRecDepth 100000
set_option maxHeartbeats 4000000
/-! Dn N: the rest of the combinators, and plain data. -/
namespace Dn
open PySem PySem.Spec PyProof.Rows L2

section
variable (s t : DS) (f g a b c : DE) (l r : DL) (k : DK) (ks : DKs) (u v w : DT) (ρ : Env) (p : Pen) (i j : Nat) (is : List Nat) (o1 o2 : DO)
variable (Q : Out → Pen → Prop) (QD : D → Pen → Prop) (QB : Bool → Pen → Prop) (QL : List D → Pen → Prop) (QE : Env → Pen → Prop)
theorem w_rng1' : W (iRng1 f ρ p) QL ↔ W (f ρ p) fun x p => Ok (rngOk x) fun xs => QL xs p := w_rng1
def rng2D : List D → Option (List D)
  | [.int i, .int j] => if -(2 ^ 62) ≤ i ∧ i < 2 ^ 62 ∧ -(2 ^ 62) ≤ j ∧ j < 2 ^ 62 then some ((List.range (j - i).toNat).map fun k : Nat => .int (i + k)) else none
  | _ => none
theorem rng2_eq : iRng2 l ρ p = (l ρ p).bind fun x => (rng2D x.1).map fun xs => (xs, x.2) := by
  unfold iRng2
  congr 1
  funext x
  rcases x with ⟨_ | ⟨a, _ | ⟨b, _ | ⟨c, r⟩⟩⟩, q⟩
  · rfl
  · cases a <;> rfl
  · cases a <;> cases b <;> try rfl
    simp only [rng2D]
    split <;> rfl
  · cases a <;> cases b <;> rfl
@[simp] theorem w_rng2 : W (iRng2 l ρ p) QL ↔ W (l ρ p) fun x p => Ok (rng2D x) fun xs => QL xs p := by
  rw [rng2_eq, W_bind]
  constructor <;> (rintro ⟨o, q, e, z⟩; exact ⟨o, q, e, by simpa [W_ok] using z⟩)
def enuD : List D → Option (List D)
  | [y] => y.its.map fun xs => pairs 0 xs
  | _ => none
@[simp] theorem w_enu : W (iEnu l ρ p) QL ↔ W (l ρ p) fun x p => Ok (enuD x) fun xs => QL xs p := by
  have e : iEnu l ρ p = (l ρ p).bind fun x => (enuD x.1).map fun xs => (xs, x.2) := by
    unfold iEnu
    congr 1
    funext x
    rcases x with ⟨_ | ⟨a, _ | ⟨b, r⟩⟩, q⟩
    · rfl
    · simp only [enuD]
      cases a.its <;> rfl
    · rfl
  rw [e, W_bind]
  constructor <;> (rintro ⟨o, q, e, z⟩; exact ⟨o, q, e, by simpa [W_ok] using z⟩)
@[simp] theorem enu_1 (x : D) : enuD [x] = x.its.map fun xs => pairs 0 xs := rfl
def zpD : List D → Option (List D)
  | [y, z] => y.its.bind fun xs => z.its.map fun ys => zipD xs ys
  | _ => none
@[simp] theorem w_zp : W (iZp l ρ p) QL ↔ W (l ρ p) fun x p => Ok (zpD x) fun xs => QL xs p := by
  have e : iZp l ρ p = (l ρ p).bind fun x => (zpD x.1).map fun xs => (xs, x.2) := by
    unfold iZp
    congr 1
    funext x
    rcases x with ⟨_ | ⟨a, _ | ⟨b, _ | ⟨c, r⟩⟩⟩, q⟩
    · rfl
    · rfl
    · simp only [zpD]
      cases a.its <;> cases b.its <;> rfl
    · rfl
  rw [e, W_bind]
  constructor <;> (rintro ⟨o, q, e, z⟩; exact ⟨o, q, e, by simpa [W_ok] using z⟩)
@[simp] theorem zp_2 (x y : D) : zpD [x, y] = x.its.bind fun xs => y.its.map fun ys => zipD xs ys := rfl
def cutL (x : D) (lo hi : Option Int) : Option (List D) := match x with
  | .lst xs => some (cut xs lo hi)
  | _ => none
def kSlL : D → Pen → Prop := fun x p => W (o1 ρ p) fun lo p => W (o2 ρ p) fun hi p => Ok (cutL x lo hi) fun d => QL d p
@[simp] theorem w_slL : W (lSl a o1 o2 ρ p) QL ↔ W (a ρ p) (kSlL ρ o1 o2 QL) := by
  have e : lSl a o1 o2 ρ p = (a ρ p).bind fun x => (o1 ρ x.2).bind fun y => (o2 ρ y.2).bind fun z => (cutL x.1 y.1 z.1).map fun d => (d, z.2) := by
    unfold lSl
    congr 1
    funext x
    congr 1
    funext y
    congr 1
    funext z
    unfold cutL
    cases x.1 <;> simp
  rw [e, W_bind]
  constructor <;> (rintro ⟨o, q, e, z⟩; exact ⟨o, q, e, by simpa [kSlL, W_bind, W_ok] using z⟩)
@[simp] theorem k_slL (x : D) : kSlL ρ o1 o2 QL x p ↔ W (o1 ρ p) fun lo p => W (o2 ρ p) fun hi p => Ok (cutL x lo hi) fun d => QL d p := Iff.rfl
@[simp] theorem cutL_lst (xs : List D) (lo hi : Option Int) : cutL (.lst xs) lo hi = some (cut xs lo hi) := rfl
@[simp] theorem slD_tup (xs : List D) (lo hi : Option Int) : sliceD (.tup xs) lo hi = some (.tup (cut xs lo hi)) := rfl
@[simp] theorem slD_lst (xs : List D) (lo hi : Option Int) : sliceD (.lst xs) lo hi = some (.lst (cut xs lo hi)) := rfl
def revD : D → Option (List D)
  | .lst xs => some xs.reverse
  | _ => none
@[simp] theorem w_rev : W (lRev f ρ p) QL ↔ W (f ρ p) fun x p => Ok (revD x) fun xs => QL xs p := by
  have e : lRev f ρ p = (f ρ p).bind fun x => (revD x.1).map fun xs => (xs, x.2) := by
    unfold lRev
    congr 1
    funext x
    unfold revD
    cases x.1 <;> rfl
  rw [e, W_bind]
  constructor <;> (rintro ⟨o, q, e, z⟩; exact ⟨o, q, e, by simpa [W_ok] using z⟩)
@[simp] theorem rev_lst (xs : List D) : revD (.lst xs) = some xs.reverse := rfl
def catD : D → D → Option (List D)
  | .lst xs, .lst ys => if xs.length + ys.length ≤ sizeLine then some (xs ++ ys) else none
  | _, _ => none
@[simp] theorem w_cat : W (lCat a b ρ p) QL ↔ W (a ρ p) fun x p => W (b ρ p) fun y p => Ok (catD x y) fun xs => QL xs p := by
  have e : lCat a b ρ p = (a ρ p).bind fun x => (b ρ x.2).bind fun y => (catD x.1 y.1).map fun xs => (xs, y.2) := by
    unfold lCat
    congr 1
    funext x
    congr 1
    funext y
    unfold catD
    cases x.1 <;> cases y.1 <;> simp
  rw [e, W_bind]
  constructor <;> (rintro ⟨o, q, e, z⟩; exact ⟨o, q, e, by simpa [W_bind, W_ok] using z⟩)
def repD : D → D → Option (List D)
  | .lst xs, .int k => if -(2 ^ 63) ≤ k ∧ k < 2 ^ 63 ∧ xs.length * k.toNat ≤ sizeLine then some (List.replicate k.toNat xs).flatten else none
  | _, _ => none
@[simp] theorem w_rep : W (lRep a b ρ p) QL ↔ W (a ρ p) fun x p => W (b ρ p) fun y p => Ok (repD x y) fun xs => QL xs p := by
  have e : lRep a b ρ p = (a ρ p).bind fun x => (b ρ x.2).bind fun y => (repD x.1 y.1).map fun xs => (xs, y.2) := by
    unfold lRep
    congr 1
    funext x
    congr 1
    funext y
    unfold repD
    cases x.1 <;> cases y.1 <;> simp
  rw [e, W_bind]
  constructor <;> (rintro ⟨o, q, e, z⟩; exact ⟨o, q, e, by simpa [W_bind, W_ok] using z⟩)
def lrD : D → Option (List D)
  | .int j => if -(2 ^ 62) ≤ j ∧ j ≤ 16777216 then some ((List.range j.toNat).map fun i : Nat => .int i) else none
  | _ => none
@[simp] theorem w_lrng1 : W (lRng1 f ρ p) QL ↔ W (f ρ p) fun x p => Ok (lrD x) fun xs => QL xs p := by
  have e : lRng1 f ρ p = (f ρ p).bind fun x => (lrD x.1).map fun xs => (xs, x.2) := by
    unfold lRng1
    congr 1
    funext x
    unfold lrD
    cases x.1 <;> simp
  rw [e, W_bind]
  constructor <;> (rintro ⟨o, q, e, z⟩; exact ⟨o, q, e, by simpa [W_ok] using z⟩)
def lr2D : D → D → Option (List D)
  | .int i, .int j => if -(2 ^ 62) ≤ i ∧ i < 2 ^ 62 ∧ -(2 ^ 62) ≤ j ∧ j < 2 ^ 62 ∧ (j - i).toNat ≤ 16777216 then some ((List.range (j - i).toNat).map fun k : Nat => .int (i + k)) else none
  | _, _ => none
@[simp] theorem w_lrng2 : W (lRng2 a b ρ p) QL ↔ W (a ρ p) fun x p => W (b ρ p) fun y p => Ok (lr2D x y) fun xs => QL xs p := by
  have e : lRng2 a b ρ p = (a ρ p).bind fun x => (b ρ x.2).bind fun y => (lr2D x.1 y.1).map fun xs => (xs, y.2) := by
    unfold lRng2
    congr 1
    funext x
    congr 1
    funext y
    unfold lr2D
    cases x.1 <;> cases y.1 <;> simp
  rw [e, W_bind]
  constructor <;> (rintro ⟨o, q, e, z⟩; exact ⟨o, q, e, by simpa [W_bind, W_ok] using z⟩)
@[simp] theorem w_eMz (h : D → List D → Option D) : W (eMz h a l ρ p) QD ↔ W (a ρ p) fun x p => W (l ρ p) fun y p => Ok (h x y) fun d => QD d p := by
  unfold eMz
  rw [W_bind]
  constructor <;> (rintro ⟨o, q, e, z⟩; exact ⟨o, q, e, by simpa [W_bind, W_ok] using z⟩)
-- targets
def kAsg (h : DGp) : D → Pen → Prop := fun d p => W (h d ρ p) fun ρ' p => Q (.nx ρ') p
@[simp] theorem w_asg (h : DGp) : W (sAsg f h ρ p) Q ↔ W (f ρ p) (kAsg ρ Q h) := by
  unfold sAsg
  rw [W_bind]
  constructor <;> (rintro ⟨o, q, e, z⟩; exact ⟨o, q, e, by simpa [W_map, kAsg] using z⟩)
@[simp] theorem k_asg (h : DGp) (d : D) : kAsg ρ Q h d p ↔ W (h d ρ p) fun ρ' p => Q (.nx ρ') p := Iff.rfl
@[simp] theorem w_pNm (d : D) : W (pNm i d ρ p) QE ↔ QE (ρ.set i (.sh d)) p := W_some
@[simp] theorem w_pNil : W (pNil [] ρ p) QE ↔ QE ρ p := W_some
@[simp] theorem w_pCons (h : DGp) (hs : DGps) (d : D) (ds : List D) : W (pCons h hs (d :: ds) ρ p) QE ↔ W (h d ρ p) fun ρ' p => W (hs ds ρ' p) QE := by
  show W ((h d ρ p).bind fun x => hs ds x.1 x.2) QE ↔ _
  rw [W_bind]
@[simp] theorem w_pTup (n : Nat) (hs : DGps) (d : D) : W (pTup n hs d ρ p) QE ↔ Ok d.parts fun ds => ds.length = n ∧ W (hs ds ρ p) QE := by
  unfold pTup
  rw [W_okb]
  constructor <;> (rintro ⟨ds, e, z⟩; refine ⟨ds, e, ?_⟩; by_cases hz : ds.length = n <;> simp [hz, W_none] at z ⊢ <;> exact z)
@[simp] theorem parts_tup (ds : List D) : D.parts (.tup ds) = some ds := rfl
@[simp] theorem parts_wtup (ds : List D) : D.parts (.wtup ds) = some ds := rfl
def kPx (xs : List D) (d : D) : D → Pen → Prop := fun x p => match x with
  | .int k => Ok (ixN xs.length k) fun j => QE (ρ.set i (.own (xs.set j d))) p
  | _ => False
theorem w_pIx (d : D) (xs : List D) (h : ρ.at i = .own xs) : W (pIx i f d ρ p) QE ↔ W (f ρ p) (kPx ρ i QE xs d) := by
  unfold pIx
  rw [h]
  simp only
  rw [W_bind]
  constructor
  · rintro ⟨o, q, e, z⟩
    refine ⟨o, q, e, ?_⟩
    cases o <;> simp [W_none, W_map0, kPx] at z ⊢
    exact z
  · rintro ⟨o, q, e, z⟩
    refine ⟨o, q, e, ?_⟩
    cases o <;> simp [W_none, W_map0, kPx] at z ⊢
    exact z
@[simp] theorem k_px (xs : List D) (d : D) (n : Int) : kPx ρ i QE xs d (.int n) p ↔ Ok (ixN xs.length n) fun j => QE (ρ.set i (.own (xs.set j d))) p := Iff.rfl
-- fields
def kFld (c0 h : String) : D → Pen → Prop := fun d p => match ρ.at 0 with
  | .obj c fs => (c = c0 ∧ fs.length < 1000 ∧ ρ.tail.all (fun c => !c.isObj) = true) ∧ Q (.nx (ρ.set 0 (.obj c (putS h d fs)))) p
  | _ => False
@[simp] theorem w_fld (c0 h : String) : W (sFld c0 h f ρ p) Q ↔ W (f ρ p) (kFld ρ Q c0 h) := by
  unfold sFld
  rw [W_bind]
  constructor
  · rintro ⟨o, q, e, z⟩
    refine ⟨o, q, e, ?_⟩
    unfold kFld
    cases hc : ρ.at 0 <;> simp [hc, W_none, W_if, W_some] at z ⊢
    first | exact ⟨z.2, z.1 z.2.1 z.2.2.1 z.2.2.2⟩ | exact ⟨fun _ _ _ => z.2, z.1⟩
  · rintro ⟨o, q, e, z⟩
    refine ⟨o, q, e, ?_⟩
    unfold kFld at z
    cases hc : ρ.at 0 <;> simp [hc, W_none, W_if, W_some] at z ⊢
    first | exact ⟨z.2, z.1 z.2.1 z.2.2.1 z.2.2.2⟩ | exact ⟨fun _ _ _ => z.2, z.1⟩
def kIni (c0 : String) (QF : List (String × D) → Pen → Prop) : Out → Pen → Prop := fun o p => match o with
  | .nx ρ => (match ρ.at 0 with
    | .obj c' fs => c' = c0 ∧ QF fs p
    | _ => False)
  | _ => False
theorem w_ini (c0 : String) (n m : Nat) (ds : List D) (QF : List (String × D) → Pen → Prop) : W (iniD c0 n m s ds p) QF ↔ ds.length = n ∧ W (s (iniEnv c0 m ds) p) (kIni c0 QF) := by
  unfold iniD
  by_cases h : ds.length = n
  · simp only [h, if_true, W_bind, true_and]
    constructor
    · rintro ⟨o, q, e, z⟩
      refine ⟨o, q, e, ?_⟩
      unfold kIni
      cases o with
      | nx ρ =>
        simp only at z ⊢
        cases hc : ρ.at 0 <;> simp [hc, W_none, W_if, W_some] at z ⊢
        first | exact ⟨z.2, z.1 z.2⟩ | exact ⟨fun _ => z.2, z.1⟩
      | _ => simp [W_none] at z
    · rintro ⟨o, q, e, z⟩
      refine ⟨o, q, e, ?_⟩
      unfold kIni at z
      cases o with
      | nx ρ =>
        simp only at z ⊢
        cases hc : ρ.at 0 <;> simp [hc, W_none, W_if, W_some] at z ⊢
        first | exact ⟨z.2, z.1 z.2⟩ | exact ⟨fun _ => z.2, z.1⟩
      | _ => exact z.elim
  · simp [h, W_none]
@[simp] theorem ini_env (c0 : String) (m : Nat) (ds : List D) : iniEnv c0 m ds = .obj c0 [] :: (ds.map Cell.sh ++ List.replicate (m - 1 - ds.length) Cell.no) := rfl
def kCi (c0 : String) (m : Fn) (x : D) : D → Pen → Prop := fun y p => (isIns c0 x && isIns c0 y) = true ∧ W (m [x, y] p) fun z p => Ok z.bool fun t => QB t p
@[simp] theorem w_cmpI (c0 : String) (m : Fn) : W (tCmpI c0 m a b ρ p) QB ↔ W (a ρ p) fun x p => W (b ρ p) (kCi QB c0 m x) := by
  unfold tCmpI
  rw [W_bind]
  constructor
  · rintro ⟨x, q, e, z⟩
    refine ⟨x, q, e, ?_⟩
    rw [W_bind] at z
    obtain ⟨y, q2, e2, z⟩ := z
    refine ⟨y, q2, e2, ?_⟩
    show _ ∧ _
    by_cases h : (isIns c0 x && isIns c0 y) = true
    · refine ⟨h, ?_⟩
      simp only [h, if_true, W_bind] at z
      obtain ⟨d, q3, e3, z⟩ := z
      exact ⟨d, q3, e3, by simpa [W_ok] using z⟩
    · rw [W_if, W_none] at z
      exact (z.2 h).elim
  · rintro ⟨x, q, e, y, q2, e2, h, d, q3, e3, z⟩
    refine ⟨x, q, e, ?_⟩
    show W _ _
    rw [W_bind]
    refine ⟨y, q2, e2, ?_⟩
    show W _ _
    simp only [h, if_true, W_bind]
    exact ⟨d, q3, e3, by simpa [W_ok] using z⟩
@[simp] theorem k_ci (c0 : String) (m : Fn) (x y : D) : kCi QB c0 m x y p ↔ (isIns c0 x && isIns c0 y) = true ∧ W (m [x, y] p) fun z p => Ok z.bool fun t => QB t p := Iff.rfl
@[simp] theorem bool_bl (t : Bool) : D.bool (.bl t) = some t := rfl
end
/-- a while loop by an invariant and a measure -/
theorem while_go {c : DT} {s : DS} {Q : Out → Pen → Prop} {I : Env → Pen → Prop} {μ : Env → Nat}
    (h : ∀ ρ p, I ρ p → W (c ρ p) fun t p' => (t = false → Q (.nx ρ) p') ∧ (t = true → W (s ρ p') fun o p'' => (∃ ρ2, (o = .nx ρ2 ∨ o = .ct ρ2) ∧ I ρ2 p'' ∧ μ ρ2 < μ ρ) ∨ (∃ ρ2, o = .bk ρ2 ∧ Q (.nx ρ2) p'') ∨ ∃ d, o = .rt d ∧ Q (.rt d) p'')) :
    ∀ (n : Nat) (ρ : Env) (p : Pen), μ ρ < n → I ρ p → ∃ m, W (whileGo c s m ρ p) Q := by
  intro n
  induction n with
  | zero => intro ρ p hn; omega
  | succ n ih =>
    intro ρ p hn hI
    obtain ⟨t, p1, e1, h0, h1⟩ := h ρ p hI
    cases t with
    | false => exact ⟨1, .nx ρ, p1, by simp [whileGo, e1], h0 rfl⟩
    | true =>
      obtain ⟨o, p2, e2, h2⟩ := h1 rfl
      rcases h2 with ⟨ρ2, ho, hI2, hm⟩ | ⟨ρ2, rfl, hq⟩ | ⟨d, rfl, hq⟩
      · obtain ⟨m, o3, p3, e3, h3⟩ := ih ρ2 p2 (by omega) hI2
        refine ⟨m + 1, o3, p3, ?_, h3⟩
        simp only [whileGo, e1, Option.bind_some, if_true, e2]
        rcases ho with rfl | rfl <;> exact e3
      · exact ⟨1, .nx ρ2, p2, by simp [whileGo, e1, e2], hq⟩
      · exact ⟨1, .rt d, p2, by simp [whileGo, e1, e2], hq⟩
theorem while_inv {c : DT} {s : DS} {Q : Out → Pen → Prop} {ρ : Env} {p : Pen} (I : Env → Pen → Prop) (μ : Env → Nat) (hI : I ρ p)
    (h : ∀ ρ p, I ρ p → W (c ρ p) fun t p' => (t = false → Q (.nx ρ) p') ∧ (t = true → W (s ρ p') fun o p'' => (∃ ρ2, (o = .nx ρ2 ∨ o = .ct ρ2) ∧ I ρ2 p'' ∧ μ ρ2 < μ ρ) ∨ (∃ ρ2, o = .bk ρ2 ∧ Q (.nx ρ2) p'') ∨ ∃ d, o = .rt d ∧ Q (.rt d) p'')) : W (sWhile c s ρ p) Q := by
  obtain ⟨m, o, p', e, hq⟩ := while_go h (μ ρ + 1) ρ p (by omega) hI
  exact ⟨o, p', sWhile_of e, hq⟩

/-! plain data -/
def D.pl : Nat → D → Bool
  | _, .non => true
  | _, .int _ => true
  | _, .str x => PyData.strOk x
  | n + 1, .lst xs => xs.all (D.pl n)
  | n + 1, .tup xs => xs.all (D.pl n)
  | _, _ => false
@[simp] theorem pl_non (n : Nat) : D.pl n .non = true := by cases n <;> rfl
@[simp] theorem pl_int (n : Nat) (i : Int) : D.pl n (.int i) = true := by cases n <;> rfl
@[simp] theorem pl_str (n : Nat) (i : Str) : D.pl n (.str i) = PyData.strOk i := by cases n <;> rfl
@[simp] theorem pl_lst (n : Nat) (xs : List D) : D.pl (n + 1) (.lst xs) = xs.all (D.pl n) := rfl
@[simp] theorem pl_tup (n : Nat) (xs : List D) : D.pl (n + 1) (.tup xs) = xs.all (D.pl n) := rfl
theorem pl_dat : ∀ {n : Nat} {x : D}, x.pl n = true → x.dat n = true
  | n, .int _, _ => by cases n <;> rfl
  | n, .str _, h => by cases n <;> exact h
  | n + 1, .lst xs, h => by
    simp only [D.pl, D.dat, List.all_eq_true] at h ⊢
    exact fun x hx => pl_dat (h x hx)
  | n + 1, .tup xs, h => by
    simp only [D.pl, D.dat, List.all_eq_true] at h ⊢
    exact fun x hx => pl_dat (h x hx)
  | 0, .lst _, h => by cases h
  | 0, .tup _, h => by cases h
  | n, .non, _ => by cases n <;> rfl
  | n, .bl _, h => by cases n <;> cases h
  | n, .wtup _, h => by cases n <;> cases h
  | n, .ins _ _, h => by cases n <;> cases h
  | n, .fn _, h => by cases n <;> cases h
  | n, .pen, h => by cases n <;> cases h
theorem pl_mono : ∀ {n m : Nat} {x : D}, x.pl n = true → n ≤ m → x.pl m = true
  | n, m, .int _, _, _ => by cases m <;> rfl
  | n, m, .str _, h, _ => by cases n <;> cases m <;> exact h
  | n + 1, m + 1, .lst xs, h, hm => by
    simp only [D.pl, List.all_eq_true] at h ⊢
    exact fun x hx => pl_mono (h x hx) (by omega)
  | n + 1, m + 1, .tup xs, h, hm => by
    simp only [D.pl, List.all_eq_true] at h ⊢
    exact fun x hx => pl_mono (h x hx) (by omega)
  | n + 1, 0, _, _, hm => by omega
  | 0, _, .lst _, h, _ => by cases h
  | 0, _, .tup _, h, _ => by cases h
  | n, m, .non, _, _ => by cases m <;> rfl
  | n, _, .bl _, h, _ => by cases n <;> cases h
  | n, _, .wtup _, h, _ => by cases n <;> cases h
  | n, _, .ins _ _, h, _ => by cases n <;> cases h
  | n, _, .fn _, h, _ => by cases n <;> cases h
  | n, _, .pen, h, _ => by cases n <;> cases h
theorem eqvAll_pl {n : Nat} (ih : ∀ x y : D, x.pl n = true → y.pl n = true → (PyData.eqv x.py y.py = true ↔ x = y)) : ∀ {xs ys : List D}, xs.all (D.pl n) = true → ys.all (D.pl n) = true → (PyData.eqvAll (pys xs) (pys ys) = true ↔ xs = ys)
  | [], [], _, _ => by simp [pys, PyData.eqvAll]
  | [], _ :: _, _, _ => by simp [pys, PyData.eqvAll]
  | _ :: _, [], _, _ => by simp [pys, PyData.eqvAll]
  | x :: xs, y :: ys, hx, hy => by
    simp only [List.all_cons, Bool.and_eq_true] at hx hy
    simp only [pys, PyData.eqvAll, Bool.and_eq_true, List.cons.injEq]
    rw [ih x y hx.1 hy.1, eqvAll_pl ih hx.2 hy.2]
theorem eqv_pl : ∀ {n : Nat} {x y : D}, x.pl n = true → y.pl n = true → (x.eqv y = true ↔ x = y) := by
  intro n
  induction n with
  | zero =>
    intro x y hx hy
    cases x <;> cases y <;> simp [D.pl] at hx hy <;> simp [D.eqv, D.py, PyData.eqv]
  | succ n ih =>
    intro x y hx hy
    cases x <;> cases y <;> simp only [D.pl, Bool.false_eq_true] at hx hy <;> simp [D.eqv, D.py, PyData.eqv]
    · exact eqvAll_pl (fun x y => ih) hx hy
    · exact eqvAll_pl (fun x y => ih) hx hy
open Classical in
theorem eqv_pl' {n : Nat} {x y : D} (hx : x.pl n = true) (hy : y.pl n = true) : x.eqv y = decide (x = y) := by
  rw [Bool.eq_iff_iff, eqv_pl hx hy, decide_eq_true_iff]
open Classical in
theorem eq_pl {x y : D} (hx : x.pl 16 = true) (hy : y.pl 16 = true) : gEq x y = some (decide (x = y)) := by
  unfold gEq
  rw [pl_dat hx, pl_dat hy, eqv_pl' hx hy]
  rfl
open Classical in
theorem ne_pl {x y : D} (hx : x.pl 16 = true) (hy : y.pl 16 = true) : gNe x y = some (!decide (x = y)) := by
  unfold gNe
  rw [pl_dat hx, pl_dat hy, eqv_pl' hx hy]
  rfl
open Classical in
theorem in_any {x : D} {ys : List D} (hx : x.pl 15 = true) (hy : ys.all (D.pl 15) = true) : (ys.any fun z => z.eqv x) = decide (x ∈ ys) := by
  rw [Bool.eq_iff_iff, decide_eq_true_iff, List.any_eq_true]
  rw [List.all_eq_true] at hy
  constructor
  · rintro ⟨z, hz, e⟩
    rw [← (eqv_pl (hy z hz) hx).mp e]
    exact hz
  · exact fun h => ⟨x, h, (eqv_pl (hy x h) hx).mpr rfl⟩
theorem all_dat {n : Nat} {ys : List D} (hy : ys.all (D.pl n) = true) : ys.all (D.dat n) = true := by
  rw [List.all_eq_true] at hy ⊢
  exact fun z hz => pl_dat (hy z hz)
open Classical in
theorem in_lst {x : D} {ys : List D} (hx : x.pl 15 = true) (hy : ys.all (D.pl 15) = true) : gIn x (.lst ys) = some (decide (x ∈ ys)) := by
  have e1 := pl_dat (pl_mono hx (show 15 ≤ 16 by decide))
  have e : gIn x (.lst ys) = if x.dat 16 && ys.all (D.dat 15) then some (ys.any fun z => z.eqv x) else none := by cases x <;> rfl
  rw [e, e1, all_dat hy, in_any hx hy]
  rfl
open Classical in
theorem in_tup {x : D} {ys : List D} (hx : x.pl 15 = true) (hy : ys.all (D.pl 15) = true) : gIn x (.tup ys) = some (decide (x ∈ ys)) := by
  have e1 := pl_dat (pl_mono hx (show 15 ≤ 16 by decide))
  have e : gIn x (.tup ys) = if x.dat 16 && ys.all (D.dat 15) then some (ys.any fun z => z.eqv x) else none := by cases x <;> rfl
  rw [e, e1, all_dat hy, in_any hx hy]
  rfl
open Classical in
theorem notin_lst {x : D} {ys : List D} (hx : x.pl 15 = true) (hy : ys.all (D.pl 15) = true) : gNotIn x (.lst ys) = some (!decide (x ∈ ys)) := by
  unfold gNotIn
  rw [in_lst hx hy]
  rfl
open Classical in
theorem notin_tup {x : D} {ys : List D} (hx : x.pl 15 = true) (hy : ys.all (D.pl 15) = true) : gNotIn x (.tup ys) = some (!decide (x ∈ ys)) := by
  unfold gNotIn
  rw [in_tup hx hy]
  rfl
/-- a tuple of numbers -/
def iT (ns : List Int) : D := .tup (ns.map .int)
theorem map_int_inj {a b : List Int} : a.map D.int = b.map D.int ↔ a = b := by
  constructor
  · intro h
    exact (List.map_inj_right fun x y e => by cases e; rfl).mp h
  · exact fun h => h ▸ rfl
@[simp] theorem ints_inj {a b : List Int} : iT a = iT b ↔ a = b := by
  unfold iT
  rw [D.tup.injEq, map_int_inj]
@[simp] theorem pl_ints (n : Nat) (ns : List Int) : D.pl (n + 1) (iT ns) = true := by simp [iT]
@[simp] theorem pl_mapint (n : Nat) (ns : List Int) : (ns.map D.int).all (D.pl n) = true := by simp
@[simp] theorem its_ints (ns : List Int) : (iT ns).its = some (ns.map .int) := rfl
@[simp] theorem walk_ints (ns : List Int) : (iT ns).walk = some (ns.map .int) := rfl
@[simp] theorem len_ints (ns : List Int) : gLen (iT ns) = some (.int ns.length) := by simp [iT]
theorem lt_ints (a b : List Int) : gLt (iT a) (iT b) = some (HT.lexLt a b) := by
  show (intsOf (a.map D.int)).bind _ = _
  rw [ints_map, ints_map]
  rfl
theorem le_size {n : Nat} (h : n ≤ 1000000) : n ≤ sizeLine := Nat.le_trans h (by rw [sizeLine_eq]; decide)
theorem lt_size {n : Nat} (h : n < 1000000) : n < sizeLine := Nat.lt_of_lt_of_le h (by rw [sizeLine_eq]; decide)
theorem rng_ok {i : Int} (h0 : -1000000 ≤ i) (h1 : i ≤ 1000000) : rngOk (.int i) = some ((List.range i.toNat).map fun i : Nat => D.int i) := by
  unfold rngOk
  have c : -(2 ^ 62) ≤ i ∧ i < 2 ^ 62 := ⟨Int.le_trans (by decide) h0, Int.lt_of_le_of_lt h1 (by decide)⟩
  simp only
  rw [if_pos c]
theorem lr_ok {i : Int} (h0 : -1000000 ≤ i) (h1 : i ≤ 1000000) : lrD (.int i) = some ((List.range i.toNat).map fun i : Nat => D.int i) := by
  unfold lrD
  have c : -(2 ^ 62) ≤ i ∧ i ≤ 16777216 := ⟨Int.le_trans (by decide) h0, Int.le_trans h1 (by decide)⟩
  simp only
  rw [if_pos c]
theorem all_lst (bs : List Bool) : gAll (.lst (bs.map .bl)) = some (.bl (bs.all id)) := by
  have e : ∀ bs : List Bool, blsOf (bs.map D.bl) = some bs := by
    intro bs
    induction bs with
    | nil => rfl
    | cons b bs ih => simp [blsOf, ih]
  simp [gAll, e]
theorem sum_lst (ns : List Int) : gSum (.lst (ns.map .int)) = some (.int ns.sum) := by simp [gSum, ints_map]
theorem sorted_lst (ns : List Int) : gSorted (.lst (ns.map .int)) = some ((sortI ns).map .int) := by simp [gSorted, ints_map]
@[simp] theorem add_tup (xs ys : List D) (R : D → Prop) : Ok (gAdd (.tup xs) (.tup ys)) R ↔ xs.length + ys.length ≤ sizeLine ∧ R (.tup (xs ++ ys)) := by
  show Ok (if xs.length + ys.length ≤ sizeLine then some (D.tup (xs ++ ys)) else none) R ↔ _
  rw [Ok_ite, Ok_some, Ok_none]
  constructor
  · intro ⟨h, k⟩
    have : xs.length + ys.length ≤ sizeLine := Classical.byContradiction k
    exact ⟨this, h this⟩
  · exact fun ⟨h, k⟩ => ⟨fun _ => k, fun n => n h⟩
@[simp] theorem add_lst (xs ys : List D) (R : D → Prop) : Ok (gAdd (.lst xs) (.lst ys)) R ↔ xs.length + ys.length ≤ sizeLine ∧ R (.lst (xs ++ ys)) := by
  show Ok (if xs.length + ys.length ≤ sizeLine then some (D.lst (xs ++ ys)) else none) R ↔ _
  rw [Ok_ite, Ok_some, Ok_none]
  constructor
  · intro ⟨h, k⟩
    have : xs.length + ys.length ≤ sizeLine := Classical.byContradiction k
    exact ⟨this, h this⟩
  · exact fun ⟨h, k⟩ => ⟨fun _ => k, fun n => n h⟩
@[simp] theorem add_str (xs ys : Str) (R : D → Prop) : Ok (gAdd (.str xs) (.str ys)) R ↔ xs.length + ys.length ≤ sizeLine ∧ R (.str (xs ++ ys)) := by
  show Ok (if xs.length + ys.length ≤ sizeLine then some (D.str (xs ++ ys)) else none) R ↔ _
  rw [Ok_ite, Ok_some, Ok_none]
  constructor
  · intro ⟨h, k⟩
    have : xs.length + ys.length ≤ sizeLine := Classical.byContradiction k
    exact ⟨this, h this⟩
  · exact fun ⟨h, k⟩ => ⟨fun _ => k, fun n => n h⟩
/-- cuts by natural bounds -/
theorem cut_to {α : Type} (xs : List α) (n : Nat) (h : n ≤ xs.length) : cut xs none (some (n : Int)) = xs.take n := by
  simp [cut, HT.sIx_none, HT.sIx_nat, Nat.min_eq_left h]
theorem cut_from {α : Type} (xs : List α) (n : Nat) (h : n ≤ xs.length) : cut xs (some (n : Int)) none = xs.drop n := by
  simp only [cut, HT.sIx_none, HT.sIx_nat, Nat.min_eq_left h]
  exact List.take_of_length_le (by simp)
theorem cut_from1 {α : Type} (xs : List α) (n : Nat) (h : n < xs.length) : cut xs (some ((n : Int) + 1)) none = xs.drop (n + 1) := cut_from xs (n + 1) h
section
variable {cs : List String} {bs : List Cl}
@[simp] theorem isi_int (i : Int) : gIsi cs bs (.int i) = some (.bl (bs.any (Cl.ty "int").is)) := rfl
@[simp] theorem isi_bl (i : Bool) : gIsi cs bs (.bl i) = some (.bl (bs.any (Cl.ty "bool").is)) := rfl
@[simp] theorem isi_str (i : Str) : gIsi cs bs (.str i) = some (.bl (bs.any (Cl.ty "str").is)) := rfl
@[simp] theorem isi_lst (i : List D) : gIsi cs bs (.lst i) = some (.bl (bs.any (Cl.ty "list").is)) := rfl
@[simp] theorem isi_tup (i : List D) : gIsi cs bs (.tup i) = some (.bl (bs.any (Cl.ty "tuple").is)) := rfl
@[simp] theorem isi_ints (i : List Int) : gIsi cs bs (iT i) = some (.bl (bs.any (Cl.ty "tuple").is)) := rfl
@[simp] theorem isi_non : gIsi cs bs .non = some (.bl (bs.any (Cl.ty "NoneType").is)) := rfl
@[simp] theorem cl_is (a b : String) : (Cl.ty a).is (.ty b) = (decide (a = b) || (decide (a = "bool") && decide (b = "int"))) := rfl
end
@[simp] theorem fld_ins (c f : String) (fs : List (String × D)) : gFld f (.ins c fs) = flook fs f := rfl
@[simp] theorem flook_c (n f : String) (d : D) (fs : List (String × D)) : flook ((n, d) :: fs) f = if n = f then some d else flook fs f := rfl
/-! keys, max, min, index -/
section
variable (ρ : Env) (p : Pen) (l : DL) (QD : D → Pen → Prop) (QL : List D → Pen → Prop)
def lenK (xs : List D) : Option D := (keysD xs).map fun ks => .int (putAll [] ks).length
@[simp] theorem w_lenD : W (eLenD l ρ p) QD ↔ W (l ρ p) fun xs p => Ok (lenK xs) fun d => QD d p := by
  have e : eLenD l ρ p = (l ρ p).bind fun x => (lenK x.1).map fun d => (d, x.2) := by
    unfold eLenD
    congr 1
    funext x
    unfold lenK
    cases keysD x.1 <;> rfl
  rw [e, W_bind]
  constructor <;> (rintro ⟨o, q, e, z⟩; exact ⟨o, q, e, by simpa [W_ok] using z⟩)
def srtK (xs : List D) : Option (List D) := (keysD xs).bind fun ks => (intKs ((putAll [] ks).map (·.1))).bind fun is => if is.length < 64 then some ((sortI is).map D.int) else none
@[simp] theorem w_srtD : W (lSrtD l ρ p) QL ↔ W (l ρ p) fun xs p => Ok (srtK xs) fun d => QL d p := by
  have e : lSrtD l ρ p = (l ρ p).bind fun x => (srtK x.1).map fun d => (d, x.2) := by
    unfold lSrtD
    congr 1
    funext x
    unfold srtK
    cases keysD x.1 with
    | none => rfl
    | some ks =>
      simp only [Option.bind_some]
      cases intKs ((putAll [] ks).map (·.1)) with
      | none => rfl
      | some is =>
        simp only [Option.bind_some]
        split <;> rfl
  rw [e, W_bind]
  constructor <;> (rintro ⟨o, q, e, z⟩; exact ⟨o, q, e, by simpa [W_ok] using z⟩)
end
theorem keysD_ints (ns : List Int) : keysD (ns.map .int) = some (ns.map Sum.inl) := by
  induction ns with
  | nil => rfl
  | cons n ns ih => simp [keysD, keyD, ih]
theorem putK_new {kvs : List (Key × V)} {k : Key} {v : V} (h : k ∉ kvs.map (·.1)) : putK kvs k v = kvs ++ [(k, v)] := by
  unfold putK
  rw [if_neg]
  intro z
  rw [List.any_eq_true] at z
  obtain ⟨q, hq, e⟩ := z
  exact h (List.mem_map.mpr ⟨q, hq, of_decide_eq_true e⟩)
theorem putAll_nodup : ∀ (ks : List Key) (kvs : List (Key × V)), (kvs.map (·.1) ++ ks).Nodup → putAll kvs ks = kvs ++ ks.map fun k => (k, .bl true)
  | [], kvs, _ => by simp [putAll]
  | k :: ks, kvs, h => by
    have h1 : k ∉ kvs.map (·.1) := fun z => by
      have := (List.nodup_append.mp h).2.2 k z k List.mem_cons_self
      exact this rfl
    have h2 : ((kvs ++ [(k, V.bl true)]).map (·.1) ++ ks).Nodup := by
      rw [List.map_append, List.append_assoc]
      exact h
    have ih := putAll_nodup ks (kvs ++ [(k, .bl true)]) h2
    have e : putAll kvs (k :: ks) = putAll (putK kvs k (.bl true)) ks := rfl
    rw [e, putK_new h1, ih]
    simp
theorem lenK_ints {ns : List Int} (h : ns.Nodup) : lenK (ns.map .int) = some (.int ns.length) := by
  unfold lenK
  rw [keysD_ints, Option.map_some, putAll_nodup _ _ (by
    simp only [List.map_nil, List.nil_append]
    exact List.pairwise_map.mpr (h.imp fun z e => z (Sum.inl.inj e)))]
  simp
theorem findEqv_pl {n : Nat} {x : D} (hx : x.pl n = true) : ∀ {xs : List D}, xs.all (D.pl n) = true → ∀ {j : Nat}, xs[j]? = some x → (∀ i, i < j → xs[i]? ≠ some x) → findEqv x xs = some j
  | [], _, j, h, _ => by simp at h
  | z :: zs, hz, j, h, hm => by
    simp only [List.all_cons, Bool.and_eq_true] at hz
    unfold findEqv
    cases j with
    | zero =>
      simp at h
      rw [if_pos ((eqv_pl hz.1 hx).mpr h)]
    | succ j =>
      rw [if_neg fun e => hm 0 (by omega) (by simp [(eqv_pl hz.1 hx).mp e])]
      rw [findEqv_pl hx hz.2 (j := j) (by simpa using h) fun i hi => by simpa using hm (i + 1) (by omega)]
      rfl
theorem index_pl {x y : D} {xs : List D} {j : Nat} (hy : y = .lst xs ∨ y = .tup xs) (hx : x.pl 15 = true) (hs : xs.all (D.pl 15) = true) (h : xs[j]? = some x) (hm : ∀ i, i < j → xs[i]? ≠ some x) : gIndex y [x] = some (.int j) := by
  have e : y.its = some xs := by rcases hy with rfl | rfl <;> rfl
  show (y.its.bind fun xs => if x.dat 16 && xs.all (D.dat 15) then (findEqv x xs).map fun (j : Nat) => D.int (j : Int) else none) = _
  rw [e, Option.bind_some, pl_dat (pl_mono hx (show 15 ≤ 16 by decide)), all_dat hs, findEqv_pl hx hs h hm]
  rfl
@[simp] theorem max_2 (i j : Int) : gMax [.int i, .int j] = some (.int (if j > i then j else i)) := rfl
@[simp] theorem min_2 (i j : Int) : gMin [.int i, .int j] = some (.int (if j < i then j else i)) := rfl
end Dn
set_option Elab.async false
set_option linter.all false
set_option maxRecDepth 100000
set_option maxHeartbeats 4000000
/-! Dn O: texts, draws in use, loops in use. -/
namespace Dn
open PySem PySem.Spec PyProof.Rows L2

theorem W_draw {p : Pen} {m : Int} {Q : D → Pen → Prop} (hp : PenOk p) (hm : 0 < m) (hb : m < 1073741824) (k : ∀ i p', PenOk p' → 0 ≤ i → i < m → Q (.int i) p') : W (d__law_draw [.pen, .int m] p) Q :=
  (draw_ok hp hm hb).mono fun d p' h => by
    obtain ⟨h1, i, rfl, h2, h3⟩ := h
    exact k i p' h1 h2 h3
theorem W_pick {p : Pen} {xs : List D} {Q : D → Pen → Prop} (hp : PenOk p) (h0 : xs ≠ []) (hb : xs.length < 1073741824) (k : ∀ d p', PenOk p' → d ∈ xs → Q d p') : W (d__law_pick [.pen, .lst xs] p) Q :=
  (pick_ok hp (.inl rfl) h0 hb).mono fun d p' h => k d p' h.1 h.2
theorem W_pickT {p : Pen} {xs : List D} {Q : D → Pen → Prop} (hp : PenOk p) (h0 : xs ≠ []) (hb : xs.length < 1073741824) (k : ∀ d p', PenOk p' → d ∈ xs → Q d p') : W (d__law_pick [.pen, .tup xs] p) Q :=
  (pick_ok hp (.inr rfl) h0 hb).mono fun d p' h => k d p' h.1 h.2
theorem W_shuf {p : Pen} {xs : List D} {Q : D → Pen → Prop} (hp : PenOk p) (hb : xs.length < 1000000) (k : ∀ ys p', PenOk p' → ys.Perm xs → Q (.lst ys) p') : W (d__law_shuffled [.pen, .lst xs] p) Q :=
  (shuffled_ok hp (.inl rfl) hb).mono fun d p' h => by
    obtain ⟨h1, ys, rfl, h2⟩ := h
    exact k ys p' h1 h2
/-! texts by their signs -/
def nm (cs : List Nat) : D := .str (SX.S cs)
theorem nm_str (x : Str) : D.str x = nm x.cps.toList := by rw [nm, SX.S_tl]
@[simp] theorem nm_inj {a b : List Nat} : nm a = nm b ↔ a = b := by
  constructor
  · intro h
    unfold nm at h
    exact SX.S_inj (D.str.inj h)
  · exact fun h => h ▸ rfl
theorem strOk_S (a : List Nat) : PyData.strOk (SX.S a) = a.all (· < 0x110000) := by
  unfold PyData.strOk
  rw [← Array.all_toList]
theorem pl_nm (n : Nat) (a : List Nat) (h : ∀ c ∈ a, c < 1000) : D.pl n (nm a) = true := by
  unfold nm
  rw [pl_str, strOk_S, List.all_eq_true]
  intro c hc
  have := h c hc
  simp
  omega
theorem len_nm (a : List Nat) (h : a.length ≤ 1000000) : gLen (nm a) = some (.int a.length) := by
  show (if (SX.S a).length ≤ sizeLine then some (D.int (SX.S a).length) else none) = _
  rw [SX.S_len, if_pos (le_size h)]
theorem walk_nm (a : List Nat) : (nm a).walk = some (a.map fun c => nm [c]) := rfl
theorem add_nm {a b : List Nat} {R : D → Prop} (h : a.length + b.length ≤ 1000000) : Ok (gAdd (nm a) (nm b)) R ↔ R (nm (a ++ b)) := by
  unfold nm
  rw [add_str, SX.S_cat, SX.S_len, SX.S_len]
  exact ⟨fun k => k.2, fun k => ⟨le_size h, k⟩⟩
theorem in_nm1 (c : Nat) (b : List Nat) : gIn (nm [c]) (nm b) = some (decide (c ∈ b)) := by
  show some (strIn (SX.S [c]) (SX.S b)) = _
  unfold strIn
  have := PySem.StrLaws.found_one (SX.S b) c
  exact congrArg some this
theorem notin_nm1 (c : Nat) (b : List Nat) : gNotIn (nm [c]) (nm b) = some (!decide (c ∈ b)) := by
  unfold gNotIn
  rw [in_nm1]
  rfl
theorem ix_nm {a : List Nat} {n : Nat} (h : n < a.length) (hb : a.length ≤ 1000000) : gIx (nm a) (.int n) = some (nm [a[n]]) := by
  show (if (SX.S a).length ≤ sizeLine then (L2.atI a (n : Int)).map fun c => D.str ⟨#[c]⟩ else none) = _
  rw [SX.S_len, if_pos (le_size hb), atI_nat h]
  rfl
theorem pick_nm {p : Pen} {a : List Nat} {Q : D → Pen → Prop} (hp : PenOk p) (h0 : a ≠ []) (hb : a.length < 1000000) (k : ∀ c p', PenOk p' → c ∈ a → Q (nm [c]) p') : W (d__law_pick [.pen, nm a] p) Q := by
  have hl : 0 < a.length := List.length_pos_iff.mpr h0
  unfold d__law_pick
  simp [w_fnD, s__law_pick, len_nm a (by omega)]
  refine W_draw hp (by omega) (by omega) fun i p' hp' h0 h1 => ?_
  obtain ⟨n, rfl⟩ := Int.eq_ofNat_of_zero_le h0
  have hn : n < a.length := by omega
  exact ⟨_, ix_nm hn (by omega), k _ _ hp' (List.getElem_mem hn)⟩
theorem strs_nm (l : List (List Nat)) : strsOf (l.map nm) = some (l.map SX.S) := by
  induction l with
  | nil => rfl
  | cons a l ih => rw [List.map_cons, nm, strsOf, ih]; rfl
theorem joinL_nil (l : List (List Nat)) : TL.joinL [] l = l.flatten := by
  induction l with
  | nil => rfl
  | cons a l ih =>
    cases l with
    | nil => simp [TL.joinL]
    | cons b l => rw [TL.joinL, ih]; simp
theorem join_nm (l : List (List Nat)) (h : l.flatten.length ≤ 1000000) : gJoin (nm []) (.lst (l.map nm)) = some (nm l.flatten) := by
  show ((strsOf (l.map nm)).bind fun ys => if (ys.map (·.length)).sum + ys.length * (SX.S []).length ≤ 16777216 then some (D.str (Txt.join (SX.S []) ys)) else none) = _
  rw [strs_nm, Option.bind_some, SX.lens, SX.join_S, joinL_nil, if_pos]
  · rfl
  · rw [List.length_flatten] at h
    have e : (SX.S []).length = 0 := rfl
    rw [e, Nat.mul_zero]
    exact Nat.le_trans h (by decide)
/-- a comprehension without a pen over a mapped list -/
theorem comp_map {α : Type} {b : DG} {c : DT} {f : DE} {ρ : Env} {p : Pen} {e : α → D} (k : α → Bool) (g : α → D) {xs : List α} {Q : List D → Pen → Prop} (h : ∀ x ∈ xs, ∃ ρ1, b (e x) ρ = some ρ1 ∧ W (c ρ1 p) (fun t p' => t = k x ∧ p' = p) ∧ (k x = true → W (f ρ1 p) fun d p' => d = g x ∧ p' = p)) (hq : Q ((xs.filter k).map g) p) : W (compGo b c f ρ (xs.map e) p) Q := by
  have : compGo b c f ρ (xs.map e) p = some ((xs.filter k).map g, p) := by
    clear hq
    induction xs with
    | nil => rfl
    | cons x xs ih =>
      obtain ⟨ρ1, e1, e2, e3⟩ := h x List.mem_cons_self
      have ih := ih (fun y hy => h y (List.mem_cons_of_mem _ hy))
      have e2 := eq_of_W e2
      simp only [List.map_cons, compGo, e1, Option.bind_some, e2]
      cases hk : k x with
      | false => simp [ih, hk]
      | true => simp [eq_of_W (e3 hk), ih, hk]
  rw [this, W_some]
  exact hq
/-- a comprehension without a pen and without a test -/
theorem comp_all {α : Type} {b : DG} {f : DE} {ρ : Env} {p : Pen} {e : α → D} (g : α → D) {xs : List α} {Q : List D → Pen → Prop} (h : ∀ x ∈ xs, ∃ ρ1, b (e x) ρ = some ρ1 ∧ W (f ρ1 p) fun d p' => d = g x ∧ p' = p) (hq : Q (xs.map g) p) : W (compGo b tYes f ρ (xs.map e) p) Q := by
  refine comp_map (fun _ => true) g (fun x hx => ?_) (by rw [List.filter_eq_self.mpr fun _ _ => rfl]; exact hq)
  obtain ⟨ρ1, e1, e2⟩ := h x hx
  exact ⟨ρ1, e1, by simp, fun _ => e2⟩
/-- a comprehension that draws -/
theorem comp_gen {α : Type} {b : DG} {f : DE} {ρ : Env} (e : α → D) (P : α → Prop) : ∀ {xs : List D} {p : Pen} {Q : List D → Pen → Prop}, PenOk p → (∀ x ∈ xs, ∀ p, PenOk p → ∃ ρ1, b x ρ = some ρ1 ∧ W (f ρ1 p) fun d p' => PenOk p' ∧ ∃ a, d = e a ∧ P a) → (∀ (as : List α) p', PenOk p' → as.length = xs.length → (∀ a ∈ as, P a) → Q (as.map e) p') → W (compGo b tYes f ρ xs p) Q
  | [], p, Q, hp, _, k => ⟨[], p, rfl, k [] p hp rfl (by simp)⟩
  | x :: xs, p, Q, hp, h, k => by
    obtain ⟨ρ1, e1, d, p', e2, hp', a, rfl, ha⟩ := h x List.mem_cons_self p hp
    obtain ⟨ds, p2, e3, as, rfl, hp2, hl, hall⟩ := comp_gen (Q := fun ds p' => ∃ as : List α, ds = as.map e ∧ PenOk p' ∧ as.length = xs.length ∧ ∀ a ∈ as, P a) e P hp' (fun y hy => h y (List.mem_cons_of_mem _ hy)) fun as p' h1 h2 h3 => ⟨as, rfl, h1, h2, h3⟩
    refine ⟨e a :: as.map e, p2, ?_, ?_⟩
    · simp only [compGo, e1, Option.bind_some, tYes, if_true, e2, e3, Option.map_some]
    · have := k (a :: as) p2 hp2 (by simp [hl]) (by simpa using ⟨ha, hall⟩)
      simpa using this
/-- a loop over a mapped list by an invariant over what is done -/
theorem W_for {α : Type} {b : DG} {s : DS} {e : α → D} {xs : List α} {ρ : Env} {p : Pen} {Q : Out → Pen → Prop} (I : List α → Env → Pen → Prop) (h0 : I [] ρ p)
    (h : ∀ done x rest ρ p, xs = done ++ x :: rest → I done ρ p → ∃ ρ1, b (e x) ρ = some ρ1 ∧ W (s ρ1 p) fun o p' => match o with | .nx ρ2 => I (done ++ [x]) ρ2 p' | .ct ρ2 => I (done ++ [x]) ρ2 p' | .bk ρ2 => Q (.nx ρ2) p' | .rt d => Q (.rt d) p')
    (hq : ∀ ρ p, I xs ρ p → Q (.nx ρ) p) : W (forGo b s (xs.map e) ρ p) Q := by
  have go : ∀ (rest done : List α) (ρ : Env) (p : Pen), xs = done ++ rest → I done ρ p → W (forGo b s (rest.map e) ρ p) Q := by
    intro rest
    induction rest with
    | nil =>
      intro done ρ p e hI
      rw [List.append_nil] at e
      subst e
      exact ⟨_, _, rfl, hq ρ p hI⟩
    | cons x rest ih =>
      intro done ρ p ex hI
      obtain ⟨ρ1, e1, o, p', e2, h2⟩ := h done x rest ρ p ex hI
      have ex' : xs = (done ++ [x]) ++ rest := by rw [ex]; simp
      rw [List.map_cons]
      unfold forGo
      rw [e1, Option.bind_some, e2]
      cases o with
      | nx ρ2 => exact ih _ ρ2 p' ex' h2
      | ct ρ2 => exact ih _ ρ2 p' ex' h2
      | bk ρ2 => exact ⟨_, _, rfl, h2⟩
      | rt d => exact ⟨_, _, rfl, h2⟩
  exact go xs [] ρ p rfl h0
section
variable (i : Nat) (d : D) (ρ : Env) (b : DG) (bs : DGs) (ds : List D) (n : Nat)
@[simp] theorem b_nm : bNm i d ρ = some (ρ.set i (.sh d)) := rfl
@[simp] theorem b_nil : bNil [] ρ = some ρ := rfl
@[simp] theorem b_cons : bCons b bs (d :: ds) ρ = (b d ρ).bind fun ρ1 => bs ds ρ1 := rfl
@[simp] theorem b_tup : bTup n bs (.tup ds) ρ = if ds.length = n then bs ds ρ else none := rfl
@[simp] theorem b_wtup : bTup n bs (.wtup ds) ρ = if ds.length = n then bs ds ρ else none := rfl
end
theorem pairs_map {α : Type} (e : α → D) : ∀ (xs : List α) (n : Nat), pairs n (xs.map e) = (xs.zipIdx n).map fun q => .wtup [.int q.2, e q.1]
  | [], _ => rfl
  | x :: xs, n => by
    simp only [List.map_cons, pairs, List.zipIdx_cons]
    rw [pairs_map e xs (n + 1)]
theorem zip_map {α β : Type} (e : α → D) (f : β → D) (xs : List α) (ys : List β) : zipD (xs.map e) (ys.map f) = (xs.zip ys).map fun q => .wtup [e q.1, f q.2] := by
  unfold zipD
  rw [List.zip_map, List.map_map]
  rfl
/-- a loop over enumerate -/
theorem W_forE {α : Type} {b : DG} {s : DS} {e : α → D} {xs : List α} {ρ : Env} {p : Pen} {Q : Out → Pen → Prop} (I : List α → Env → Pen → Prop) (h0 : I [] ρ p)
    (h : ∀ done x rest ρ p, xs = done ++ x :: rest → I done ρ p → ∃ ρ1, b (.wtup [.int (done.length : Nat), e x]) ρ = some ρ1 ∧ W (s ρ1 p) fun o p' => match o with | .nx ρ2 => I (done ++ [x]) ρ2 p' | .ct ρ2 => I (done ++ [x]) ρ2 p' | .bk ρ2 => Q (.nx ρ2) p' | .rt d => Q (.rt d) p')
    (hq : ∀ ρ p, I xs ρ p → Q (.nx ρ) p) : W (forGo b s (pairs 0 (xs.map e)) ρ p) Q := by
  have go : ∀ (rest done : List α) (ρ : Env) (p : Pen), xs = done ++ rest → I done ρ p → W (forGo b s (pairs done.length (rest.map e)) ρ p) Q := by
    intro rest
    induction rest with
    | nil =>
      intro done ρ p e hI
      rw [List.append_nil] at e
      subst e
      exact ⟨_, _, rfl, hq ρ p hI⟩
    | cons x rest ih =>
      intro done ρ p ex hI
      obtain ⟨ρ1, e1, o, p', e2, h2⟩ := h done x rest ρ p ex hI
      have ex' : xs = (done ++ [x]) ++ rest := by rw [ex]; simp
      have el : done.length + 1 = (done ++ [x]).length := by simp
      rw [List.map_cons, pairs]
      unfold forGo
      rw [e1, Option.bind_some, e2]
      cases o with
      | nx ρ2 =>
        show W (forGo b s (pairs (done.length + 1) (rest.map e)) ρ2 p') Q
        rw [el]
        exact ih _ ρ2 p' ex' h2
      | ct ρ2 =>
        show W (forGo b s (pairs (done.length + 1) (rest.map e)) ρ2 p') Q
        rw [el]
        exact ih _ ρ2 p' ex' h2
      | bk ρ2 => exact ⟨_, _, rfl, h2⟩
      | rt d => exact ⟨_, _, rfl, h2⟩
  exact go xs [] ρ p rfl h0
@[simp] theorem wipe_0 (ρ : Env) : wipeE ρ [] = ρ := rfl
@[simp] theorem wipe_s (ρ : Env) (v : Nat) (vs : List Nat) : wipeE ρ (v :: vs) = (wipeE ρ vs).set v .no := rfl
/-- what stands ahead -/
theorem cut_done {α β : Type} (f : α → β) {xs done rest : List α} {x : α} (e : xs = done ++ x :: rest) : cut (xs.map f) none (some (done.length : Int)) = done.map f := by
  rw [cut_to _ _ (by rw [e]; simp), e]
  simp
theorem cut_rest {α β : Type} (f : α → β) {xs done rest : List α} {x : α} (e : xs = done ++ x :: rest) : cut (xs.map f) (some ((done.length : Int) + 1)) none = rest.map f := by
  rw [cut_from1 _ _ (by rw [e]; simp), e, List.map_append, List.map_cons, ← List.drop_drop, List.drop_left' (by simp)]
  rfl
end Dn
set_option Elab.async false
set_option linter.all false
set_option maxRecDepth 100000
set_option maxHeartbeats 4000000
/-! Dn Y: rows of numbers, rows that are mapped. -/
namespace Dn
open PySem PySem.Spec PyProof.Rows L2

abbrev ni (n : Nat) : D := .int (n : Int)
def nT (ns : List Nat) : D := .tup (ns.map ni)
theorem ni_inj {a b : Nat} : ni a = ni b ↔ a = b := by
  rw [D.int.injEq]
  omega
theorem ni_inj' (a b : Nat) (h : ni a = ni b) : a = b := ni_inj.mp h
theorem mapni_inj {a b : List Nat} : a.map ni = b.map ni ↔ a = b := by
  constructor
  · intro h
    exact (List.map_inj_right fun x y e => ni_inj.mp e).mp h
  · exact fun h => h ▸ rfl
@[simp] theorem nT_inj {a b : List Nat} : nT a = nT b ↔ a = b := by
  unfold nT
  rw [D.tup.injEq, mapni_inj]
theorem nT_inj' (a b : List Nat) (h : nT a = nT b) : a = b := nT_inj.mp h
@[simp] theorem len_nT (ns : List Nat) : gLen (nT ns) = some (.int ns.length) := by simp [nT]
@[simp] theorem its_nT (ns : List Nat) : (nT ns).its = some (ns.map ni) := rfl
@[simp] theorem walk_nT (ns : List Nat) : (nT ns).walk = some (ns.map ni) := rfl
@[simp] theorem isi_nT {cs : List String} {bs : List Cl} (ns : List Nat) : gIsi cs bs (nT ns) = some (.bl (bs.any (Cl.ty "tuple").is)) := rfl
@[simp] theorem tup_nT (ns : List Nat) : gTup (nT ns) = some (nT ns) := rfl
theorem fold_nT (ns : List Nat) : D.tup (ns.map ni) = nT ns := rfl
theorem pl_nT (n : Nat) (ns : List Nat) : D.pl (n + 1) (nT ns) = true := by
  unfold nT
  rw [pl_tup, List.all_map, List.all_eq_true]
  exact fun x _ => pl_int n x
theorem pl_ni (n : Nat) (i : Nat) : D.pl n (ni i) = true := pl_int n i
theorem nmod {a b : Nat} : (a : Int).fmod (b : Int) = ((a % b : Nat) : Int) := by
  rw [Int.fmod_eq_emod_of_nonneg _ (by omega)]
  exact (Int.natCast_emod a b).symm
theorem ndiv {a b : Nat} : (a : Int).fdiv (b : Int) = ((a / b : Nat) : Int) := by
  rw [Int.fdiv_eq_ediv_of_nonneg _ (by omega)]
  exact (Int.natCast_ediv a b).symm
theorem big_n {n : Nat} (h : n ≤ 1000000) : big64 (n : Int) = true := big_l (by omega)
theorem rng_n {n : Nat} (h : n ≤ 1000000) : rngOk (.int n) = some ((List.range n).map ni) := rng_ok (by omega) (by omega)
theorem lr_n {n : Nat} (h : n ≤ 1000000) : lrD (.int n) = some ((List.range n).map ni) := lr_ok (by omega) (by omega)
theorem ix_map {α : Type} {e : α → D} {xs : List α} {i : Nat} (h : i < xs.length) : L2.atI (xs.map e) (i : Int) = some (e xs[i]) := by
  rw [Dn.atI_nat (by simpa using h), List.getElem_map]
theorem ix_nT {ns : List Nat} {i : Nat} (h : i < ns.length) : gIx (nT ns) (.int i) = some (ni ns[i]) := ix_map h
theorem perm_map {α : Type} {e : α → D} {inv : D → α} (hi : ∀ a, inv (e a) = a) {ys : List D} {xs : List α} (h : ys.Perm (xs.map e)) : ∃ zs : List α, ys = zs.map e ∧ zs.Perm xs := by
  refine ⟨ys.map inv, ?_, ?_⟩
  · have : ∀ y ∈ ys, e (inv y) = y := fun y hy => by
      obtain ⟨a, _, rfl⟩ := List.mem_map.mp (h.mem_iff.mp hy)
      rw [hi]
    rw [List.map_map]
    have e2 : ys = ys.map id := by simp
    conv => lhs; rw [e2]
    exact List.map_congr_left fun y hy => (this y hy).symm
  · have := h.map inv
    rw [List.map_map] at this
    have e2 : xs.map (inv ∘ e) = xs := by
      conv => rhs; rw [← List.map_id xs]
      exact List.map_congr_left fun a _ => hi a
    rwa [e2] at this
theorem perm_ni {ys : List D} {xs : List Nat} (h : ys.Perm (xs.map ni)) : ∃ zs : List Nat, ys = zs.map ni ∧ zs.Perm xs := perm_map (e := ni) (inv := fun d => match d with | .int i => i.toNat | _ => 0) (fun a => by simp) h
section
variable {α : Type} [BEq α] [LawfulBEq α] {e : α → D} (inj : ∀ a b, e a = e b → a = b) (hp : ∀ a, (e a).pl 15 = true)
include inj hp
theorem all_pl (xs : List α) : (xs.map e).all (D.pl 15) = true := by
  rw [List.all_map, List.all_eq_true]
  exact fun x _ => hp x
theorem mem_e {x : α} {xs : List α} : e x ∈ xs.map e ↔ x ∈ xs := by
  constructor
  · intro h
    obtain ⟨y, hy, z⟩ := List.mem_map.mp h
    rw [← inj _ _ z]
    exact hy
  · exact fun h => List.mem_map.mpr ⟨x, h, rfl⟩
theorem in_mapL (x : α) (xs : List α) : gIn (e x) (.lst (xs.map e)) = some (decide (x ∈ xs)) := by
  rw [in_lst (hp x) (all_pl inj hp xs)]
  exact congrArg some (decide_eq_decide.mpr (mem_e inj hp))
theorem in_mapT (x : α) (xs : List α) : gIn (e x) (.tup (xs.map e)) = some (decide (x ∈ xs)) := by
  rw [in_tup (hp x) (all_pl inj hp xs)]
  exact congrArg some (decide_eq_decide.mpr (mem_e inj hp))
theorem notin_mapL (x : α) (xs : List α) : gNotIn (e x) (.lst (xs.map e)) = some (!decide (x ∈ xs)) := by
  unfold gNotIn
  rw [in_mapL inj hp]
  rfl
theorem notin_mapT (x : α) (xs : List α) : gNotIn (e x) (.tup (xs.map e)) = some (!decide (x ∈ xs)) := by
  unfold gNotIn
  rw [in_mapT inj hp]
  rfl
theorem idx_first : ∀ {xs : List α} {x : α} {i : Nat}, i < xs.idxOf x → xs[i]? ≠ some x
  | [], x, i, h => by simp
  | y :: xs, x, i, h => by
    by_cases hy : y = x
    · subst hy
      simp [List.idxOf_cons] at h
    · have e2 : (y :: xs).idxOf x = xs.idxOf x + 1 := by
        have : (y == x) = false := by simpa using hy
        simp [List.idxOf_cons, this]
      cases i with
      | zero => simpa using hy
      | succ i => simpa using idx_first (xs := xs) (x := x) (i := i) (by omega)
theorem index_map {x : α} {xs : List α} {y : D} (hy : y = .lst (xs.map e) ∨ y = .tup (xs.map e)) (h : x ∈ xs) : gIndex y [e x] = some (.int (xs.idxOf x)) := by
  have hl := List.idxOf_lt_length_of_mem h
  refine index_pl hy (hp x) (all_pl inj hp xs) ?_ fun i hi z => ?_
  · rw [List.getElem?_map, List.getElem?_eq_getElem hl, List.getElem_idxOf]
    rfl
  · rw [List.getElem?_map] at z
    obtain ⟨w, h1, h2⟩ := Option.map_eq_some_iff.mp z
    rw [inj _ _ h2] at h1
    exact idx_first inj hp hi h1
end
theorem in_nT (x : Nat) (xs : List Nat) : gIn (ni x) (nT xs) = some (decide (x ∈ xs)) := in_mapT ni_inj' (pl_ni 15) x xs
theorem notin_nT (x : Nat) (xs : List Nat) : gNotIn (ni x) (nT xs) = some (!decide (x ∈ xs)) := notin_mapT ni_inj' (pl_ni 15) x xs
theorem index_nT {x : Nat} {xs : List Nat} (h : x ∈ xs) : gIndex (nT xs) [ni x] = some (.int (xs.idxOf x)) := index_map ni_inj' (pl_ni 15) (.inr rfl) h
theorem all_true {α : Type} (l : List α) : gAll (.lst (l.map fun _ => D.bl true)) = some (.bl true) := by
  rw [show (l.map fun _ => D.bl true) = (l.map fun _ => true).map D.bl by simp, all_lst]
  simp
/-- a number or nobody -/
def oD : Option Nat → D
  | none => .non
  | some n => ni n
def oT (l : List (Option Nat)) : D := .tup (l.map oD)
@[simp] theorem oD_some (n : Nat) : oD (some n) = ni n := rfl
@[simp] theorem oD_none : oD none = .non := rfl
theorem oD_inj (a b : Option Nat) (h : oD a = oD b) : a = b := by
  cases a <;> cases b
  · rfl
  · cases h
  · cases h
  · rw [ni_inj.mp h]
theorem pl_oD (n : Nat) (a : Option Nat) : (oD a).pl n = true := by
  cases a
  · exact pl_non n
  · exact pl_int n _
/-- rows of rows -/
def LT (ls : List (List Nat)) : D := .tup (ls.map nT)
@[simp] theorem len_LT (ls : List (List Nat)) : gLen (LT ls) = some (.int ls.length) := by simp [LT]
@[simp] theorem walk_LT (ls : List (List Nat)) : (LT ls).walk = some (ls.map nT) := rfl
@[simp] theorem its_LT (ls : List (List Nat)) : (LT ls).its = some (ls.map nT) := rfl
@[simp] theorem tup_LT (ls : List (List Nat)) : gTup (LT ls) = some (LT ls) := rfl
@[simp] theorem isi_LT {cs : List String} {bs : List Cl} (ls : List (List Nat)) : gIsi cs bs (LT ls) = some (.bl (bs.any (Cl.ty "tuple").is)) := rfl
theorem ix_LT {ls : List (List Nat)} {i : Nat} (h : i < ls.length) : gIx (LT ls) (.int i) = some (nT (ls.getD i [])) := by
  rw [List.getD_eq_getElem?_getD, List.getElem?_eq_getElem h]
  exact ix_map h
theorem pl_LT (n : Nat) (ls : List (List Nat)) : D.pl (n + 2) (LT ls) = true := by
  unfold LT
  rw [pl_tup, List.all_map, List.all_eq_true]
  exact fun x _ => pl_nT n x
@[simp] theorem atI_0 {x : D} {xs : List D} : L2.atI (x :: xs) 0 = some x := Dn.atI_nat (xs := x :: xs) (n := 0) (by simp)
@[simp] theorem atI_1 {x y : D} {xs : List D} : L2.atI (x :: y :: xs) 1 = some y := Dn.atI_nat (xs := x :: y :: xs) (n := 1) (by simp)
@[simp] theorem is_non_non : gIs .non .non = some true := rfl
@[simp] theorem is_int_non (i : Int) : gIs (.int i) .non = some false := rfl
@[simp] theorem isnot_non_non : gIsNot .non .non = some false := rfl
@[simp] theorem isnot_int_non (i : Int) : gIsNot (.int i) .non = some true := rfl
theorem lenK_nat {ns : List Nat} (h : ns.Nodup) : lenK (ns.map ni) = some (.int ns.length) := by
  have e : ns.map ni = (ns.map Int.ofNat).map D.int := by rw [List.map_map]; rfl
  rw [e, lenK_ints (List.pairwise_map.mpr (h.imp fun z e => z (Int.ofNat.inj e)))]
  simp
end Dn
set_option Elab.async false
set_option linter.all false
set_option maxRecDepth 100000
set_option maxHeartbeats 0
/-! the certificates of the defs, their meanings, the head, the law by its meaning (printed by gen.py) -/
namespace LawN
open Dn PySem PySem.Spec PyProof.Rows L2
def top (i : Nat) : Stmt := PySem.Challenge.pw_honestrules_k75_steady_matchings_are_a_l.main.body.getD i (.Pass ⟨0, 0, 0, 0⟩)
def sub (i j : Nat) : Stmt := (Dn.clsB (top i)).getD j (.Pass ⟨0, 0, 0, 0⟩)
abbrev Zc : List String := []
def D__law_pen : He.DefD := ⟨("_law_pen", none), "_law_pen", "_law_pen", defArgs (top 34), defBody (top 34), defScope (top 34), [], []⟩
def D__law_draw : He.DefD := ⟨("_law_draw", none), "_law_draw", "_law_draw", defArgs (top 35), defBody (top 35), defScope (top 35), [], []⟩
def D__law_ring_market : He.DefD := ⟨("_law_ring_market", none), "_law_ring_market", "_law_ring_market", defArgs (top 43), defBody (top 43), defScope (top 43), [], []⟩
def D__law_shuffled : He.DefD := ⟨("_law_shuffled", none), "_law_shuffled", "_law_shuffled", defArgs (top 37), defBody (top 37), defScope (top 37), [], []⟩
def D__law_full_market : He.DefD := ⟨("_law_full_market", none), "_law_full_market", "_law_full_market", defArgs (top 44), defBody (top 44), defScope (top 44), [], []⟩
def D__law_pick : He.DefD := ⟨("_law_pick", none), "_law_pick", "_law_pick", defArgs (top 36), defBody (top 36), defScope (top 36), [], []⟩
def D__law_drawn_list : He.DefD := ⟨("_law_drawn_list", none), "_law_drawn_list", "_law_drawn_list", defArgs (top 39), defBody (top 39), defScope (top 39), [], []⟩
def D__law_drawn_market : He.DefD := ⟨("_law_drawn_market", none), "_law_drawn_market", "_law_drawn_market", defArgs (top 40), defBody (top 40), defScope (top 40), [], []⟩
def D_is_whole : He.DefD := ⟨("is_whole", none), "is_whole", "is_whole", defArgs (top 4), defBody (top 4), defScope (top 4), [], []⟩
def D_is_index : He.DefD := ⟨("is_index", none), "is_index", "is_index", defArgs (top 5), defBody (top 5), defScope (top 5), [], []⟩
def D_is_list : He.DefD := ⟨("is_list", none), "is_list", "is_list", defArgs (top 9), defBody (top 9), defScope (top 9), [], []⟩
def D_need_lists : He.DefD := ⟨("need_lists", none), "need_lists", "need_lists", defArgs (top 10), defBody (top 10), defScope (top 10), [], []⟩
def D_Market___init__ : He.DefD := ⟨("Market", some "__init__"), "__init__", "Market.__init__", defArgs (sub 8 0), defBody (sub 8 0), defScope (sub 8 0), [], []⟩
def D__law_made_market : He.DefD := ⟨("_law_made_market", none), "_law_made_market", "_law_made_market", defArgs (top 42), defBody (top 42), defScope (top 42), [], []⟩
def D_matchings_by : He.DefD := ⟨("matchings_by", none), "matchings_by", "matchings_by", defArgs (top 27), defBody (top 27), defScope (top 27), [], []⟩
def D_pairs_by : He.DefD := ⟨("pairs_by", none), "pairs_by", "pairs_by", defArgs (top 19), defBody (top 19), defScope (top 19), [], []⟩
def D_turned_by : He.DefD := ⟨("turned_by", none), "turned_by", "turned_by", defArgs (top 15), defBody (top 15), defScope (top 15), [], []⟩
def D_would_rather : He.DefD := ⟨("would_rather", none), "would_rather", "would_rather", defArgs (top 17), defBody (top 17), defScope (top 17), [], []⟩
def D_is_broken : He.DefD := ⟨("is_broken", none), "is_broken", "is_broken", defArgs (top 18), defBody (top 18), defScope (top 18), [], []⟩
def D_broken_by : He.DefD := ⟨("broken_by", none), "broken_by", "broken_by", defArgs (top 20), defBody (top 20), defScope (top 20), [], []⟩
def D_steady_by : He.DefD := ⟨("steady_by", none), "steady_by", "steady_by", defArgs (top 28), defBody (top 28), defScope (top 28), [], []⟩
def D_all_steady : He.DefD := ⟨("all_steady", none), "all_steady", "all_steady", defArgs (top 29), defBody (top 29), defScope (top 29), [], []⟩
def D_refused_by : He.DefD := ⟨("refused_by", none), "refused_by", "refused_by", defArgs (top 21), defBody (top 21), defScope (top 21), [], []⟩
def D_asking_by : He.DefD := ⟨("asking_by", none), "asking_by", "asking_by", defArgs (top 22), defBody (top 22), defScope (top 22), [], []⟩
def D_asked_by : He.DefD := ⟨("asked_by", none), "asked_by", "asked_by", defArgs (top 23), defBody (top 23), defScope (top 23), [], []⟩
def D_asked_best : He.DefD := ⟨("asked_best", none), "asked_best", "asked_best", defArgs (top 24), defBody (top 24), defScope (top 24), [], []⟩
def D_turned_sides : He.DefD := ⟨("turned_sides", none), "turned_sides", "turned_sides", defArgs (top 11), defBody (top 11), defScope (top 11), [], []⟩
def D_answered_by : He.DefD := ⟨("answered_by", none), "answered_by", "answered_by", defArgs (top 25), defBody (top 25), defScope (top 25), [], []⟩
def D_answered_best : He.DefD := ⟨("answered_best", none), "answered_best", "answered_best", defArgs (top 26), defBody (top 26), defScope (top 26), [], []⟩
def D_is_matching : He.DefD := ⟨("is_matching", none), "is_matching", "is_matching", defArgs (top 13), defBody (top 13), defScope (top 13), [], []⟩
def D_need_steady : He.DefD := ⟨("need_steady", none), "need_steady", "need_steady", defArgs (top 30), defBody (top 30), defScope (top 30), [], []⟩
def D_would_rather_than : He.DefD := ⟨("would_rather_than", none), "would_rather_than", "would_rather_than", defArgs (top 32), defBody (top 32), defScope (top 32), [], []⟩
def D_better_of : He.DefD := ⟨("better_of", none), "better_of", "better_of", defArgs (top 31), defBody (top 31), defScope (top 31), [], []⟩
def D_sides_turned : He.DefD := ⟨("sides_turned", none), "sides_turned", "sides_turned", defArgs (top 12), defBody (top 12), defScope (top 12), [], []⟩
def D_need_matching : He.DefD := ⟨("need_matching", none), "need_matching", "need_matching", defArgs (top 14), defBody (top 14), defScope (top 14), [], []⟩
def D_matching_turned : He.DefD := ⟨("matching_turned", none), "matching_turned", "matching_turned", defArgs (top 16), defBody (top 16), defScope (top 16), [], []⟩
def D__law_worse_of : He.DefD := ⟨("_law_worse_of", none), "_law_worse_of", "_law_worse_of", defArgs (top 45), defBody (top 45), defScope (top 45), [], []⟩
def D__law_is : He.DefD := ⟨("_law_is", none), "_law_is", "_law_is", defArgs (top 38), defBody (top 38), defScope (top 38), [], []⟩
def D__law_match_key : He.DefD := ⟨("_law_match_key", none), "_law_match_key", "_law_match_key", defArgs (top 41), defBody (top 41), defScope (top 41), [], []⟩
def D__law_two_right : He.DefD := ⟨("_law_two_right", none), "_law_two_right", "_law_two_right", defArgs (top 46), defBody (top 46), defScope (top 46), [], []⟩
def D__law_three_right : He.DefD := ⟨("_law_three_right", none), "_law_three_right", "_law_three_right", defArgs (top 47), defBody (top 47), defScope (top 47), [], []⟩
def D_law : He.DefD := ⟨("law", none), "law", "law", defArgs (top 48), defBody (top 48), defScope (top 48), [], []⟩
def Z : Dn.Spec where
  defs := [D__law_pen, D__law_draw, D__law_ring_market, D__law_shuffled, D__law_full_market, D__law_pick, D__law_drawn_list, D__law_drawn_market, D_is_whole, D_is_index, D_is_list, D_need_lists, D_Market___init__, D__law_made_market, D_matchings_by, D_pairs_by, D_turned_by, D_would_rather, D_is_broken, D_broken_by, D_steady_by, D_all_steady, D_refused_by, D_asking_by, D_asked_by, D_asked_best, D_turned_sides, D_answered_by, D_answered_best, D_is_matching, D_need_steady, D_would_rather_than, D_better_of, D_sides_turned, D_need_matching, D_matching_turned, D__law_worse_of, D__law_is, D__law_match_key, D__law_two_right, D__law_three_right, D_law]
  cls := Zc
  ins := [("Market", ["asks", "answers"])]
  mks := ["Market"]
  cons := [("MOST_SIDE", .int 4)]
  mts := []
/-! _law_draw: slots 0:pen 1:many 2:cell 3:digit 4:blend -/
def q__law_draw : QS :=
  (.seq (.pen 0 .count (.bin .Add (.pen 0 .count) (.int 1)))
  (.seq (.ite (.andT (.cmp .Eq (.pen 0 .digits) (.int 0)) (.oneT (.cmp .Lt (.pen 0 .at_) (.bi .len (.cons (.pen 0 .cells) .nil)))))
  (.seq (.set 2 (.ix (.pen 0 .cells) (.pen 0 .at_)))
  (.seq (.pen 0 .at_ (.bin .Add (.pen 0 .at_) (.int 1)))
  (.seq (.ite (.cmp .GtE (.var 2) (.bin .Pow (.int 10) (.int 18)))
  (.seq (.pen 0 .digits (.bin .Sub (.var 2) (.bin .Pow (.int 10) (.int 18))))
  .nil)
  (.seq (.pen 0 .fold (.bin .Mod (.bi .int (.cons (.bin .Add (.bin .Mult (.pen 0 .fold) (.int 69069)) (.var 2)) .nil)) (.int 2147483587)))
  .nil))
  .nil)))
  .nil)
  (.seq (.ite (.cmp .Gt (.pen 0 .digits) (.int 0))
  (.seq (.set 3 (.bin .Mod (.bi .int (.cons (.pen 0 .digits) .nil)) (.var 1)))
  (.seq (.pen 0 .digits (.bin .FloorDiv (.pen 0 .digits) (.var 1)))
  (.seq (.ret (.var 3))
  .nil)))
  .nil)
  (.seq (.set 4 (.bin .Mod (.bi .int (.cons (.bin .Add (.bin .Add (.bin .Mult (.pen 0 .fold) (.int 48271)) (.bin .Mult (.pen 0 .count) (.int 7919))) (.int 13)) .nil)) (.int 2147483647)))
  (.seq (.set 4 (.bin .Mod (.bi .int (.cons (.bin .Add (.bin .Add (.bin .Mult (.var 4) (.var 4)) (.bin .Mult (.int 31) (.var 4))) (.pen 0 .count)) .nil)) (.int 2147483629)))
  (.seq (.pen 0 .fold (.bin .Mod (.bi .int (.cons (.bin .Add (.bin .Mult (.var 4) (.int 16807)) (.int 7)) .nil)) (.int 2147483647)))
  (.seq (.ret (.bin .Mod (.bi .int (.cons (.bin .FloorDiv (.var 4) (.int 64)) .nil)) (.var 1)))
  .nil)))))))
noncomputable abbrev T__law_draw : Tab := tab Z [] [] none []
theorem e__law_draw : denS (T__law_draw) q__law_draw = s__law_draw := rfl
theorem c__law_draw : (scB [("pen" : Str), ("many" : Str), ("cell" : Str), ("digit" : Str), ("blend" : Str)] [("pen" : Str), ("many" : Str)] D__law_draw.scope && okB (T__law_draw) [("pen" : Str), ("many" : Str), ("cell" : Str), ("digit" : Str), ("blend" : Str)] ⟨D__law_draw.scope, D__law_draw.scope⟩ q__law_draw D__law_draw.body) = true := by kernel_rfl
/-! _law_ring_market: slots 0:many 1:asks 2:at 3:step -/
def q__law_ring_market : QS :=
  (.seq (.set 1 (.bi .tup (.cons (.lstE (.comp [2] (.nm 2) .yes (.bi .tup (.cons (.lstE (.comp [3] (.nm 3) .yes (.bin .Mod (.bi .int (.cons (.bin .Add (.var 2) (.var 3)) .nil)) (.var 0)) (.rng1 (.var 0)))) .nil)) (.rng1 (.var 0)))) .nil)))
  (.seq (.ret (.tup (.cons (.var 1) (.cons (.bi .tup (.cons (.lstE (.comp [2] (.nm 2) .yes (.bi .tup (.cons (.lstE (.comp [3] (.nm 3) .yes (.bin .Mod (.bi .int (.cons (.bin .Add (.bin .Add (.var 2) (.int 1)) (.var 3)) .nil)) (.var 0)) (.rng1 (.var 0)))) .nil)) (.rng1 (.var 0)))) .nil)) .nil))))
  .nil))
noncomputable def s__law_ring_market : DS :=
  (sSeq (sSet 1 (eCall (g1 gTup) (lCons (eLst (lComp [2] (bNm 2) tYes (eCall (g1 gTup) (lCons (eLst (lComp [3] (bNm 3) tYes (eBin gMod (eCall (g1 gInt) (lCons (eBin gAdd (eVar 2) (eVar 3)) lNil)) (eVar 0)) (iRng1 (eVar 0)))) lNil)) (iRng1 (eVar 0)))) lNil)))
  (sSeq (sRet (eTup (lCons (eVar 1) (lCons (eCall (g1 gTup) (lCons (eLst (lComp [2] (bNm 2) tYes (eCall (g1 gTup) (lCons (eLst (lComp [3] (bNm 3) tYes (eBin gMod (eCall (g1 gInt) (lCons (eBin gAdd (eBin gAdd (eVar 2) (eC (.int 1))) (eVar 3)) lNil)) (eVar 0)) (iRng1 (eVar 0)))) lNil)) (iRng1 (eVar 0)))) lNil)) lNil))))
  sSkip))
noncomputable def d__law_ring_market : Fn := fnD 1 4 s__law_ring_market
noncomputable abbrev T__law_ring_market : Tab := tab Z [] [] none []
theorem e__law_ring_market : denS (T__law_ring_market) q__law_ring_market = s__law_ring_market := rfl
theorem c__law_ring_market : (scB [("many" : Str), ("asks" : Str), ("at" : Str), ("step" : Str)] [("many" : Str)] D__law_ring_market.scope && okB (T__law_ring_market) [("many" : Str), ("asks" : Str), ("at" : Str), ("step" : Str)] ⟨D__law_ring_market.scope, D__law_ring_market.scope⟩ q__law_ring_market D__law_ring_market.body) = true := by kernel_rfl
/-! _law_shuffled: slots 0:pen 1:some 2:left 3:found 4:lap -/
def q__law_shuffled : QS :=
  (.seq (.par [("left" : Str), ("found" : Str)] [2, 3] [(.ow (.bil .list (.cons (.var 1) .nil))), (.ow (.disp .nil))])
  (.seq (.for (.nm 4) (.rng1 (.bi .len (.cons (.var 1) .nil)))
  (.seq (.appPop 3 2 (.fn 0 (.cons (.var 0) (.cons (.bi .len (.cons (.vb 2) .nil)) .nil))))
  .nil))
  (.seq (.fz 3 (.ret (.var 3)))
  .nil)))
noncomputable abbrev T__law_shuffled : Tab := tab Z [("_law_draw", 2, d__law_draw)] [] none []
theorem e__law_shuffled : denS (T__law_shuffled) q__law_shuffled = s__law_shuffled := rfl
theorem c__law_shuffled : (scB [("pen" : Str), ("some" : Str), ("left" : Str), ("found" : Str), ("lap" : Str)] [("pen" : Str), ("some" : Str)] D__law_shuffled.scope && okB (T__law_shuffled) [("pen" : Str), ("some" : Str), ("left" : Str), ("found" : Str), ("lap" : Str)] ⟨D__law_shuffled.scope, D__law_shuffled.scope⟩ q__law_shuffled D__law_shuffled.body) = true := by kernel_rfl
/-! _law_full_market: slots 0:pen 1:many 2:side -/
def q__law_full_market : QS :=
  (.seq (.set 1 (.bin .Add (.int 3) (.fn 0 (.cons (.var 0) (.cons (.int 2) .nil)))))
  (.seq (.ret (.tup (.cons (.bi .tup (.cons (.lstE (.comp [2] (.nm 2) .yes (.bi .tup (.cons (.fn 1 (.cons (.var 0) (.cons (.lstE (.rng1F (.var 1))) .nil))) .nil)) (.rng1 (.var 1)))) .nil)) (.cons (.bi .tup (.cons (.lstE (.comp [2] (.nm 2) .yes (.bi .tup (.cons (.fn 1 (.cons (.var 0) (.cons (.lstE (.rng1F (.var 1))) .nil))) .nil)) (.rng1 (.var 1)))) .nil)) .nil))))
  .nil))
noncomputable def s__law_full_market : DS :=
  (sSeq (sSet 1 (eBin gAdd (eC (.int 3)) (eFn 2 d__law_draw (lCons (eVar 0) (lCons (eC (.int 2)) lNil)))))
  (sSeq (sRet (eTup (lCons (eCall (g1 gTup) (lCons (eLst (lComp [2] (bNm 2) tYes (eCall (g1 gTup) (lCons (eFn 2 d__law_shuffled (lCons (eVar 0) (lCons (eLst (lRng1 (eVar 1))) lNil))) lNil)) (iRng1 (eVar 1)))) lNil)) (lCons (eCall (g1 gTup) (lCons (eLst (lComp [2] (bNm 2) tYes (eCall (g1 gTup) (lCons (eFn 2 d__law_shuffled (lCons (eVar 0) (lCons (eLst (lRng1 (eVar 1))) lNil))) lNil)) (iRng1 (eVar 1)))) lNil)) lNil))))
  sSkip))
noncomputable def d__law_full_market : Fn := fnD 1 3 s__law_full_market
noncomputable abbrev T__law_full_market : Tab := tab Z [("_law_draw", 2, d__law_draw), ("_law_shuffled", 2, d__law_shuffled)] [] none []
theorem e__law_full_market : denS (T__law_full_market) q__law_full_market = s__law_full_market := rfl
theorem c__law_full_market : (scB [("pen" : Str), ("many" : Str), ("side" : Str)] [("pen" : Str)] D__law_full_market.scope && okB (T__law_full_market) [("pen" : Str), ("many" : Str), ("side" : Str)] ⟨D__law_full_market.scope, D__law_full_market.scope⟩ q__law_full_market D__law_full_market.body) = true := by kernel_rfl
/-! _law_pick: slots 0:pen 1:some -/
def q__law_pick : QS :=
  (.seq (.ret (.ix (.var 1) (.fn 0 (.cons (.var 0) (.cons (.bi .len (.cons (.var 1) .nil)) .nil)))))
  .nil)
noncomputable abbrev T__law_pick : Tab := tab Z [("_law_draw", 2, d__law_draw)] [] none []
theorem e__law_pick : denS (T__law_pick) q__law_pick = s__law_pick := rfl
theorem c__law_pick : (scB [("pen" : Str), ("some" : Str)] [("pen" : Str), ("some" : Str)] D__law_pick.scope && okB (T__law_pick) [("pen" : Str), ("some" : Str)] ⟨D__law_pick.scope, D__law_pick.scope⟩ q__law_pick D__law_pick.body) = true := by kernel_rfl
/-! _law_drawn_list: slots 0:pen 1:wide 2:row -/
def q__law_drawn_list : QS :=
  (.seq (.set 2 (.fn 0 (.cons (.var 0) (.cons (.lstE (.rng1F (.var 1))) .nil))))
  (.seq (.ret (.bi .tup (.cons (.sl (.var 2) .noO (.soO (.fn 2 (.cons (.var 0) (.cons (.lstE (.disp (.cons (.var 1) (.cons (.var 1) (.cons (.var 1) (.cons (.fn 1 (.cons (.var 0) (.cons (.bin .Add (.var 1) (.int 1)) .nil))) .nil)))))) .nil))))) .nil)))
  .nil))
noncomputable def s__law_drawn_list : DS :=
  (sSeq (sSet 2 (eFn 2 d__law_shuffled (lCons (eVar 0) (lCons (eLst (lRng1 (eVar 1))) lNil))))
  (sSeq (sRet (eCall (g1 gTup) (lCons (eSl (eVar 2) oNo (oSo (eFn 2 d__law_pick (lCons (eVar 0) (lCons (eLst (lDisp (lCons (eVar 1) (lCons (eVar 1) (lCons (eVar 1) (lCons (eFn 2 d__law_draw (lCons (eVar 0) (lCons (eBin gAdd (eVar 1) (eC (.int 1))) lNil))) lNil)))))) lNil))))) lNil)))
  sSkip))
noncomputable def d__law_drawn_list : Fn := fnD 2 3 s__law_drawn_list
noncomputable abbrev T__law_drawn_list : Tab := tab Z [("_law_shuffled", 2, d__law_shuffled), ("_law_draw", 2, d__law_draw), ("_law_pick", 2, d__law_pick)] [] none []
theorem e__law_drawn_list : denS (T__law_drawn_list) q__law_drawn_list = s__law_drawn_list := rfl
theorem c__law_drawn_list : (scB [("pen" : Str), ("wide" : Str), ("row" : Str)] [("pen" : Str), ("wide" : Str)] D__law_drawn_list.scope && okB (T__law_drawn_list) [("pen" : Str), ("wide" : Str), ("row" : Str)] ⟨D__law_drawn_list.scope, D__law_drawn_list.scope⟩ q__law_drawn_list D__law_drawn_list.body) = true := by kernel_rfl
/-! _law_drawn_market: slots 0:pen 1:most 2:askers 3:answerers 4:one -/
def q__law_drawn_market : QS :=
  (.seq (.parT [2, 3] [(.sh (.bin .Add (.int 1) (.fn 0 (.cons (.var 0) (.cons (.var 1) .nil))))), (.sh (.bin .Add (.int 1) (.fn 0 (.cons (.var 0) (.cons (.var 1) .nil)))))])
  (.seq (.ret (.tup (.cons (.bi .tup (.cons (.lstE (.comp [4] (.nm 4) .yes (.fn 1 (.cons (.var 0) (.cons (.var 3) .nil))) (.rng1 (.var 2)))) .nil)) (.cons (.bi .tup (.cons (.lstE (.comp [4] (.nm 4) .yes (.fn 1 (.cons (.var 0) (.cons (.var 2) .nil))) (.rng1 (.var 3)))) .nil)) .nil))))
  .nil))
noncomputable def s__law_drawn_market : DS :=
  (sSeq (sPar [2, 3] (ksCons (kSh (eBin gAdd (eC (.int 1)) (eFn 2 d__law_draw (lCons (eVar 0) (lCons (eVar 1) lNil))))) (ksCons (kSh (eBin gAdd (eC (.int 1)) (eFn 2 d__law_draw (lCons (eVar 0) (lCons (eVar 1) lNil))))) ksNil)))
  (sSeq (sRet (eTup (lCons (eCall (g1 gTup) (lCons (eLst (lComp [4] (bNm 4) tYes (eFn 2 d__law_drawn_list (lCons (eVar 0) (lCons (eVar 3) lNil))) (iRng1 (eVar 2)))) lNil)) (lCons (eCall (g1 gTup) (lCons (eLst (lComp [4] (bNm 4) tYes (eFn 2 d__law_drawn_list (lCons (eVar 0) (lCons (eVar 2) lNil))) (iRng1 (eVar 3)))) lNil)) lNil))))
  sSkip))
noncomputable def d__law_drawn_market : Fn := fnD 2 5 s__law_drawn_market
noncomputable abbrev T__law_drawn_market : Tab := tab Z [("_law_draw", 2, d__law_draw), ("_law_drawn_list", 2, d__law_drawn_list)] [] none []
theorem e__law_drawn_market : denS (T__law_drawn_market) q__law_drawn_market = s__law_drawn_market := rfl
theorem c__law_drawn_market : (scB [("pen" : Str), ("most" : Str), ("askers" : Str), ("answerers" : Str), ("one" : Str)] [("pen" : Str), ("most" : Str)] D__law_drawn_market.scope && okB (T__law_drawn_market) [("pen" : Str), ("most" : Str), ("askers" : Str), ("answerers" : Str), ("one" : Str)] ⟨D__law_drawn_market.scope, D__law_drawn_market.scope⟩ q__law_drawn_market D__law_drawn_market.body) = true := by kernel_rfl
/-! is_whole: slots 0:value -/
def q_is_whole : QS :=
  (.seq (.ret (.andE (.isi false [.ty "int"] (.var 0)) (.oneE (.notE (.isi false [.ty "bool"] (.var 0))))))
  .nil)
noncomputable def s_is_whole : DS :=
  (sSeq (sRet (eAnd (eUn (gIsi Zc [.ty "int"]) (eVar 0)) (eT (tNot (tE (eUn (gIsi Zc [.ty "bool"]) (eVar 0)))))))
  sSkip)
noncomputable def d_is_whole : Fn := fnD 1 1 s_is_whole
noncomputable abbrev T_is_whole : Tab := tab Z [] [] none []
theorem e_is_whole : denS (T_is_whole) q_is_whole = s_is_whole := rfl
theorem c_is_whole : (scB [("value" : Str)] [("value" : Str)] D_is_whole.scope && okB (T_is_whole) [("value" : Str)] ⟨D_is_whole.scope, D_is_whole.scope⟩ q_is_whole D_is_whole.body) = true := by kernel_rfl
/-! is_index: slots 0:value 1:many -/
def q_is_index : QS :=
  (.seq (.ret (.andE (.fn 0 (.cons (.var 0) .nil)) (.oneE (.chnE .LtE .Lt (.int 0) (.var 0) (.var 1)))))
  .nil)
noncomputable def s_is_index : DS :=
  (sSeq (sRet (eAnd (eFn 1 d_is_whole (lCons (eVar 0) lNil)) (eT (tChn gLe gLt (eC (.int 0)) (eVar 0) (eVar 1)))))
  sSkip)
noncomputable def d_is_index : Fn := fnD 2 2 s_is_index
noncomputable abbrev T_is_index : Tab := tab Z [("is_whole", 1, d_is_whole)] [] none []
theorem e_is_index : denS (T_is_index) q_is_index = s_is_index := rfl
theorem c_is_index : (scB [("value" : Str), ("many" : Str)] [("value" : Str), ("many" : Str)] D_is_index.scope && okB (T_is_index) [("value" : Str), ("many" : Str)] ⟨D_is_index.scope, D_is_index.scope⟩ q_is_index D_is_index.body) = true := by kernel_rfl
/-! is_list: slots 0:width 1:value 2:one -/
def q_is_list : QS :=
  (.seq (.ite (.orT (.notT (.tru (.isi false [.ty "tuple"] (.var 1)))) (.oneT (.notT (.tru (.bi .all (.cons (.lstE (.comp [2] (.nm 2) .yes (.fn 0 (.cons (.var 2) (.cons (.var 0) .nil))) (.seqI (.var 1)))) .nil))))))
  (.seq (.ret (.bl false))
  .nil)
  .nil)
  (.seq (.ret (.cmpE .Eq (.lenD [2] (.nm 2) .yes (.var 2) (.seqI (.var 1))) (.bi .len (.cons (.var 1) .nil))))
  .nil))
noncomputable def s_is_list : DS :=
  (sSeq (sIf (tOr (tNot (tE (eUn (gIsi Zc [.ty "tuple"]) (eVar 1)))) (tNot (tE (eCall (g1 gAll) (lCons (eLst (lComp [2] (bNm 2) tYes (eFn 2 d_is_index (lCons (eVar 2) (lCons (eVar 0) lNil))) (iSeq (eVar 1)))) lNil)))))
  (sSeq (sRet (eC (.bl false)))
  sSkip)
  sSkip)
  (sSeq (sRet (eT (tCmp gEq (eLenD (lComp [2] (bNm 2) tYes (eVar 2) (iSeq (eVar 1)))) (eCall (g1 gLen) (lCons (eVar 1) lNil)))))
  sSkip))
noncomputable def d_is_list : Fn := fnD 2 3 s_is_list
noncomputable abbrev T_is_list : Tab := tab Z [("is_index", 2, d_is_index)] [] none []
theorem e_is_list : denS (T_is_list) q_is_list = s_is_list := rfl
theorem c_is_list : (scB [("width" : Str), ("value" : Str), ("one" : Str)] [("width" : Str), ("value" : Str)] D_is_list.scope && okB (T_is_list) [("width" : Str), ("value" : Str), ("one" : Str)] ⟨D_is_list.scope, D_is_list.scope⟩ q_is_list D_is_list.body) = true := by kernel_rfl
/-! need_lists: slots 0:what 1:lists 2:width 3:one -/
def q_need_lists : QS :=
  (.seq (.ite (.orT (.notT (.tru (.isi true [.ty "list", .ty "tuple"] (.var 1)))) (.oneT (.notT (.chn .LtE .LtE (.int 1) (.bi .len (.cons (.var 1) .nil)) (.con 0)))))
  (.seq .no
  .nil)
  .nil)
  (.seq (.ite (.notT (.tru (.bi .all (.cons (.lstE (.comp [3] (.nm 3) .yes (.fn 0 (.cons (.var 2) (.cons (.var 3) .nil))) (.seqI (.var 1)))) .nil))))
  (.seq .no
  .nil)
  .nil)
  .nil))
noncomputable def s_need_lists : DS :=
  (sSeq (sIf (tOr (tNot (tE (eUn (gIsi Zc [.ty "list", .ty "tuple"]) (eVar 1)))) (tNot (tChn gLe gLe (eC (.int 1)) (eCall (g1 gLen) (lCons (eVar 1) lNil)) (eC (.int 4)))))
  (sSeq sNo
  sSkip)
  sSkip)
  (sSeq (sIf (tNot (tE (eCall (g1 gAll) (lCons (eLst (lComp [3] (bNm 3) tYes (eFn 2 d_is_list (lCons (eVar 2) (lCons (eVar 3) lNil))) (iSeq (eVar 1)))) lNil))))
  (sSeq sNo
  sSkip)
  sSkip)
  sSkip))
noncomputable def d_need_lists : Fn := fnD 3 4 s_need_lists
noncomputable abbrev T_need_lists : Tab := tab Z [("is_list", 2, d_is_list)] [] none []
theorem e_need_lists : denS (T_need_lists) q_need_lists = s_need_lists := rfl
theorem c_need_lists : (scB [("what" : Str), ("lists" : Str), ("width" : Str), ("one" : Str)] [("what" : Str), ("lists" : Str), ("width" : Str)] D_need_lists.scope && okB (T_need_lists) [("what" : Str), ("lists" : Str), ("width" : Str), ("one" : Str)] ⟨D_need_lists.scope, D_need_lists.scope⟩ q_need_lists D_need_lists.body) = true := by kernel_rfl
/-! Market___init__: slots 0:self 1:asks 2:answers 3:width -/
def q_Market___init__ : QS :=
  (.seq (.set 3 (.iteE (.tru (.isi true [.ty "list", .ty "tuple"] (.var 2))) (.bi .len (.cons (.var 2) .nil)) (.con 0)))
  (.seq (.ex (.fn 0 (.cons (.str "asks") (.cons (.var 1) (.cons (.var 3) .nil)))))
  (.seq (.ex (.fn 0 (.cons (.str "answers") (.cons (.var 2) (.cons (.bi .len (.cons (.var 1) .nil)) .nil)))))
  (.seq (.fld "Market" "asks" (.bi .tup (.cons (.var 1) .nil)))
  (.seq (.fld "Market" "answers" (.bi .tup (.cons (.var 2) .nil)))
  .nil)))))
noncomputable def s_Market___init__ : DS :=
  (sSeq (sSet 3 (eIf (tE (eUn (gIsi Zc [.ty "list", .ty "tuple"]) (eVar 2))) (eCall (g1 gLen) (lCons (eVar 2) lNil)) (eC (.int 4))))
  (sSeq (sEx (eFn 3 d_need_lists (lCons (eC (.str "asks")) (lCons (eVar 1) (lCons (eVar 3) lNil)))))
  (sSeq (sEx (eFn 3 d_need_lists (lCons (eC (.str "answers")) (lCons (eVar 2) (lCons (eCall (g1 gLen) (lCons (eVar 1) lNil)) lNil)))))
  (sSeq (sFld "Market" "asks" (eCall (g1 gTup) (lCons (eVar 1) lNil)))
  (sSeq (sFld "Market" "answers" (eCall (g1 gTup) (lCons (eVar 2) lNil)))
  sSkip)))))
noncomputable def d_Market___init__ : Fi := iniD "Market" 2 4 s_Market___init__
noncomputable abbrev T_Market___init__ : Tab := tab Z [("need_lists", 3, d_need_lists)] [] (some ("Market", ["asks", "answers"])) []
theorem e_Market___init__ : denS (T_Market___init__) q_Market___init__ = s_Market___init__ := rfl
theorem c_Market___init__ : (scB [("self" : Str), ("asks" : Str), ("answers" : Str), ("width" : Str)] [("self" : Str), ("asks" : Str), ("answers" : Str)] D_Market___init__.scope && okB (T_Market___init__) [("self" : Str), ("asks" : Str), ("answers" : Str), ("width" : Str)] ⟨D_Market___init__.scope, D_Market___init__.scope⟩ q_Market___init__ D_Market___init__.body) = true := by kernel_rfl
/-! _law_made_market: slots 0:market -/
def q__law_made_market : QS :=
  (.seq (.ret (.mk 0 (.cons (.ix (.var 0) (.int 0)) (.cons (.ix (.var 0) (.int 1)) .nil))))
  .nil)
noncomputable def s__law_made_market : DS :=
  (sSeq (sRet (eMk "Market" ["asks", "answers"] 2 d_Market___init__ (lCons (eBin gIx (eVar 0) (eC (.int 0))) (lCons (eBin gIx (eVar 0) (eC (.int 1))) lNil))))
  sSkip)
noncomputable def d__law_made_market : Fn := fnD 1 1 s__law_made_market
noncomputable abbrev T__law_made_market : Tab := tab Z [] [("Market", ["asks", "answers"], 2, d_Market___init__)] none []
theorem e__law_made_market : denS (T__law_made_market) q__law_made_market = s__law_made_market := rfl
theorem c__law_made_market : (scB [("market" : Str)] [("market" : Str)] D__law_made_market.scope && okB (T__law_made_market) [("market" : Str)] ⟨D__law_made_market.scope, D__law_made_market.scope⟩ q__law_made_market D__law_made_market.body) = true := by kernel_rfl
/-! matchings_by: slots 0:market 1:rows 2:asker 3:longer 4:row 5:free 6:one -/
def q_matchings_by : QS :=
  (.seq (.set 1 (.lstE (.disp (.cons (.tup .nil) .nil))))
  (.seq (.for (.nm 2) (.rng1 (.bi .len (.cons (.fld "asks" (.var 0)) .nil)))
  (.seq (.own 3 (.disp .nil))
  (.seq (.for (.nm 4) (.seqI (.var 1))
  (.seq (.ownC 5 (.comp [6] (.nm 6) (.cmp .NotIn (.var 6) (.var 4)) (.var 6) (.rng1 (.bi .len (.cons (.fld "answers" (.var 0)) .nil)))))
  (.seq (.ext 3 (.comp [6] (.nm 6) .yes (.tup (.star (.var 4) (.cons (.var 6) .nil))) (.seqI (.lstE (.disp (.cons .non (.star (.vb 5) .nil)))))))
  .nil)))
  (.seq (.fz 3 (.set 1 (.var 3)))
  .nil))))
  (.seq (.ret (.var 1))
  .nil)))
noncomputable def s_matchings_by : DS :=
  (sSeq (sSet 1 (eLst (lDisp (lCons (eTup lNil) lNil))))
  (sSeq (sFor (bNm 2) (iRng1 (eCall (g1 gLen) (lCons (eUn (gFld "asks") (eVar 0)) lNil)))
  (sSeq (sOwn 3 (lDisp lNil))
  (sSeq (sFor (bNm 4) (iSeq (eVar 1))
  (sSeq (sOwn 5 (lComp [6] (bNm 6) (tCmp gNotIn (eVar 6) (eVar 4)) (eVar 6) (iRng1 (eCall (g1 gLen) (lCons (eUn (gFld "answers") (eVar 0)) lNil)))))
  (sSeq (sExt 3 (lComp [6] (bNm 6) tYes (eTup (lStar (eVar 4) (lCons (eVar 6) lNil))) (iSeq (eLst (lDisp (lCons (eC .non) (lStar (eVb 5) lNil)))))))
  sSkip)))
  (sSeq (sFz 3 (sSet 1 (eVar 3)))
  sSkip))))
  (sSeq (sRet (eVar 1))
  sSkip)))
noncomputable def d_matchings_by : Fn := fnD 1 7 s_matchings_by
noncomputable abbrev T_matchings_by : Tab := tab Z [] [] none []
theorem e_matchings_by : denS (T_matchings_by) q_matchings_by = s_matchings_by := rfl
theorem c_matchings_by : (scB [("market" : Str), ("rows" : Str), ("asker" : Str), ("longer" : Str), ("row" : Str), ("free" : Str), ("one" : Str)] [("market" : Str)] D_matchings_by.scope && okB (T_matchings_by) [("market" : Str), ("rows" : Str), ("asker" : Str), ("longer" : Str), ("row" : Str), ("free" : Str), ("one" : Str)] ⟨D_matchings_by.scope, D_matchings_by.scope⟩ q_matchings_by D_matchings_by.body) = true := by kernel_rfl
/-! pairs_by: slots 0:market 1:found 2:asker 3:answerer -/
def q_pairs_by : QS :=
  (.seq (.ownC 1 (.comp [3] (.nm 3) .yes (.tup (.cons .non (.cons (.var 3) .nil))) (.rng1 (.bi .len (.cons (.fld "answers" (.var 0)) .nil)))))
  (.seq (.for (.nm 2) (.rng1 (.bi .len (.cons (.fld "asks" (.var 0)) .nil)))
  (.seq (.app 1 (.tup (.cons (.var 2) (.cons .non .nil))))
  (.seq (.ext 1 (.comp [3] (.nm 3) .yes (.tup (.cons (.var 2) (.cons (.var 3) .nil))) (.rng1 (.bi .len (.cons (.fld "answers" (.var 0)) .nil)))))
  .nil)))
  (.seq (.fz 1 (.ret (.var 1)))
  .nil)))
noncomputable def s_pairs_by : DS :=
  (sSeq (sOwn 1 (lComp [3] (bNm 3) tYes (eTup (lCons (eC .non) (lCons (eVar 3) lNil))) (iRng1 (eCall (g1 gLen) (lCons (eUn (gFld "answers") (eVar 0)) lNil)))))
  (sSeq (sFor (bNm 2) (iRng1 (eCall (g1 gLen) (lCons (eUn (gFld "asks") (eVar 0)) lNil)))
  (sSeq (sApp 1 (eTup (lCons (eVar 2) (lCons (eC .non) lNil))))
  (sSeq (sExt 1 (lComp [3] (bNm 3) tYes (eTup (lCons (eVar 2) (lCons (eVar 3) lNil))) (iRng1 (eCall (g1 gLen) (lCons (eUn (gFld "answers") (eVar 0)) lNil)))))
  sSkip)))
  (sSeq (sFz 1 (sRet (eVar 1)))
  sSkip)))
noncomputable def d_pairs_by : Fn := fnD 1 4 s_pairs_by
noncomputable abbrev T_pairs_by : Tab := tab Z [] [] none []
theorem e_pairs_by : denS (T_pairs_by) q_pairs_by = s_pairs_by := rfl
theorem c_pairs_by : (scB [("market" : Str), ("found" : Str), ("asker" : Str), ("answerer" : Str)] [("market" : Str)] D_pairs_by.scope && okB (T_pairs_by) [("market" : Str), ("found" : Str), ("asker" : Str), ("answerer" : Str)] ⟨D_pairs_by.scope, D_pairs_by.scope⟩ q_pairs_by D_pairs_by.body) = true := by kernel_rfl
/-! turned_by: slots 0:market 1:matching 2:found 3:asker 4:answerer -/
def q_turned_by : QS :=
  (.seq (.own 2 (.rep (.lstE (.disp (.cons .non .nil))) (.bi .len (.cons (.fld "answers" (.var 0)) .nil))))
  (.seq (.for (.tup (.cons (.nm 3) (.cons (.nm 4) .nil))) (.enu (.cons (.var 1) .nil))
  (.seq (.ite (.cmp .IsNot (.var 4) .non)
  (.seq (.asg (.var 3) (.ix 2 (.var 4)))
  .nil)
  .nil)
  .nil))
  (.seq (.ret (.bi .tup (.cons (.vb 2) .nil)))
  .nil)))
noncomputable def s_turned_by : DS :=
  (sSeq (sOwn 2 (lRep (eLst (lDisp (lCons (eC .non) lNil))) (eCall (g1 gLen) (lCons (eUn (gFld "answers") (eVar 0)) lNil))))
  (sSeq (sFor (bTup 2 (bCons (bNm 3) (bCons (bNm 4) bNil))) (iEnu (lCons (eVar 1) lNil))
  (sSeq (sIf (tCmp gIsNot (eVar 4) (eC .non))
  (sSeq (sAsg (eVar 3) (pIx 2 (eVar 4)))
  sSkip)
  sSkip)
  sSkip))
  (sSeq (sRet (eCall (g1 gTup) (lCons (eVb 2) lNil)))
  sSkip)))
noncomputable def d_turned_by : Fn := fnD 2 5 s_turned_by
noncomputable abbrev T_turned_by : Tab := tab Z [] [] none []
theorem e_turned_by : denS (T_turned_by) q_turned_by = s_turned_by := rfl
theorem c_turned_by : (scB [("market" : Str), ("matching" : Str), ("found" : Str), ("asker" : Str), ("answerer" : Str)] [("market" : Str), ("matching" : Str)] D_turned_by.scope && okB (T_turned_by) [("market" : Str), ("matching" : Str), ("found" : Str), ("asker" : Str), ("answerer" : Str)] ⟨D_turned_by.scope, D_turned_by.scope⟩ q_turned_by D_turned_by.body) = true := by kernel_rfl
/-! would_rather: slots 0:told 1:one 2:other -/
def q_would_rather : QS :=
  (.seq (.ite (.cmp .NotIn (.var 1) (.var 0))
  (.seq (.ret (.bl false))
  .nil)
  .nil)
  (.seq (.ret (.orE (.cmpE .Is (.var 2) .non) (.orE (.cmpE .NotIn (.var 2) (.var 0)) (.oneE (.cmpE .Lt (.idx (.var 0) (.cons (.var 1) .nil)) (.idx (.var 0) (.cons (.var 2) .nil)))))))
  .nil))
noncomputable def s_would_rather : DS :=
  (sSeq (sIf (tCmp gNotIn (eVar 1) (eVar 0))
  (sSeq (sRet (eC (.bl false)))
  sSkip)
  sSkip)
  (sSeq (sRet (eOr (eT (tCmp gIs (eVar 2) (eC .non))) (eOr (eT (tCmp gNotIn (eVar 2) (eVar 0))) (eT (tCmp gLt (eMz gIndex (eVar 0) (lCons (eVar 1) lNil)) (eMz gIndex (eVar 0) (lCons (eVar 2) lNil)))))))
  sSkip))
noncomputable def d_would_rather : Fn := fnD 3 3 s_would_rather
noncomputable abbrev T_would_rather : Tab := tab Z [] [] none []
theorem e_would_rather : denS (T_would_rather) q_would_rather = s_would_rather := rfl
theorem c_would_rather : (scB [("told" : Str), ("one" : Str), ("other" : Str)] [("told" : Str), ("one" : Str), ("other" : Str)] D_would_rather.scope && okB (T_would_rather) [("told" : Str), ("one" : Str), ("other" : Str)] ⟨D_would_rather.scope, D_would_rather.scope⟩ q_would_rather D_would_rather.body) = true := by kernel_rfl
/-! is_broken: slots 0:market 1:matching 2:asker 3:answerer 4:back -/
def q_is_broken : QS :=
  (.seq (.set 4 (.fn 0 (.cons (.var 0) (.cons (.var 1) .nil))))
  (.seq (.ite (.cmp .Is (.var 2) .non)
  (.seq (.ret (.andE (.cmpE .IsNot (.ix (.var 4) (.var 3)) .non) (.oneE (.cmpE .NotIn (.ix (.var 4) (.var 3)) (.ix (.fld "answers" (.var 0)) (.var 3))))))
  .nil)
  .nil)
  (.seq (.ite (.cmp .Is (.var 3) .non)
  (.seq (.ret (.andE (.cmpE .IsNot (.ix (.var 1) (.var 2)) .non) (.oneE (.cmpE .NotIn (.ix (.var 1) (.var 2)) (.ix (.fld "asks" (.var 0)) (.var 2))))))
  .nil)
  .nil)
  (.seq (.ite (.notT (.tru (.fn 1 (.cons (.ix (.fld "asks" (.var 0)) (.var 2)) (.cons (.var 3) (.cons (.ix (.var 1) (.var 2)) .nil))))))
  (.seq (.ret (.bl false))
  .nil)
  .nil)
  (.seq (.ret (.fn 1 (.cons (.ix (.fld "answers" (.var 0)) (.var 3)) (.cons (.var 2) (.cons (.ix (.var 4) (.var 3)) .nil)))))
  .nil)))))
noncomputable def s_is_broken : DS :=
  (sSeq (sSet 4 (eFn 2 d_turned_by (lCons (eVar 0) (lCons (eVar 1) lNil))))
  (sSeq (sIf (tCmp gIs (eVar 2) (eC .non))
  (sSeq (sRet (eAnd (eT (tCmp gIsNot (eBin gIx (eVar 4) (eVar 3)) (eC .non))) (eT (tCmp gNotIn (eBin gIx (eVar 4) (eVar 3)) (eBin gIx (eUn (gFld "answers") (eVar 0)) (eVar 3))))))
  sSkip)
  sSkip)
  (sSeq (sIf (tCmp gIs (eVar 3) (eC .non))
  (sSeq (sRet (eAnd (eT (tCmp gIsNot (eBin gIx (eVar 1) (eVar 2)) (eC .non))) (eT (tCmp gNotIn (eBin gIx (eVar 1) (eVar 2)) (eBin gIx (eUn (gFld "asks") (eVar 0)) (eVar 2))))))
  sSkip)
  sSkip)
  (sSeq (sIf (tNot (tE (eFn 3 d_would_rather (lCons (eBin gIx (eUn (gFld "asks") (eVar 0)) (eVar 2)) (lCons (eVar 3) (lCons (eBin gIx (eVar 1) (eVar 2)) lNil))))))
  (sSeq (sRet (eC (.bl false)))
  sSkip)
  sSkip)
  (sSeq (sRet (eFn 3 d_would_rather (lCons (eBin gIx (eUn (gFld "answers") (eVar 0)) (eVar 3)) (lCons (eVar 2) (lCons (eBin gIx (eVar 4) (eVar 3)) lNil)))))
  sSkip)))))
noncomputable def d_is_broken : Fn := fnD 4 5 s_is_broken
noncomputable abbrev T_is_broken : Tab := tab Z [("turned_by", 2, d_turned_by), ("would_rather", 3, d_would_rather)] [] none []
theorem e_is_broken : denS (T_is_broken) q_is_broken = s_is_broken := rfl
theorem c_is_broken : (scB [("market" : Str), ("matching" : Str), ("asker" : Str), ("answerer" : Str), ("back" : Str)] [("market" : Str), ("matching" : Str), ("asker" : Str), ("answerer" : Str)] D_is_broken.scope && okB (T_is_broken) [("market" : Str), ("matching" : Str), ("asker" : Str), ("answerer" : Str), ("back" : Str)] ⟨D_is_broken.scope, D_is_broken.scope⟩ q_is_broken D_is_broken.body) = true := by kernel_rfl
/-! broken_by: slots 0:market 1:matching 2:asker 3:answerer -/
def q_broken_by : QS :=
  (.seq (.for (.tup (.cons (.nm 2) (.cons (.nm 3) .nil))) (.seqI (.fn 0 (.cons (.var 0) .nil)))
  (.seq (.ite (.tru (.fn 1 (.cons (.var 0) (.cons (.var 1) (.cons (.var 2) (.cons (.var 3) .nil))))))
  (.seq (.ret (.tup (.cons (.var 2) (.cons (.var 3) .nil))))
  .nil)
  .nil)
  .nil))
  (.seq (.ret .non)
  .nil))
noncomputable def s_broken_by : DS :=
  (sSeq (sFor (bTup 2 (bCons (bNm 2) (bCons (bNm 3) bNil))) (iSeq (eFn 1 d_pairs_by (lCons (eVar 0) lNil)))
  (sSeq (sIf (tE (eFn 4 d_is_broken (lCons (eVar 0) (lCons (eVar 1) (lCons (eVar 2) (lCons (eVar 3) lNil))))))
  (sSeq (sRet (eTup (lCons (eVar 2) (lCons (eVar 3) lNil))))
  sSkip)
  sSkip)
  sSkip))
  (sSeq (sRet (eC .non))
  sSkip))
noncomputable def d_broken_by : Fn := fnD 2 4 s_broken_by
noncomputable abbrev T_broken_by : Tab := tab Z [("pairs_by", 1, d_pairs_by), ("is_broken", 4, d_is_broken)] [] none []
theorem e_broken_by : denS (T_broken_by) q_broken_by = s_broken_by := rfl
theorem c_broken_by : (scB [("market" : Str), ("matching" : Str), ("asker" : Str), ("answerer" : Str)] [("market" : Str), ("matching" : Str)] D_broken_by.scope && okB (T_broken_by) [("market" : Str), ("matching" : Str), ("asker" : Str), ("answerer" : Str)] ⟨D_broken_by.scope, D_broken_by.scope⟩ q_broken_by D_broken_by.body) = true := by kernel_rfl
/-! steady_by: slots 0:market 1:row -/
def q_steady_by : QS :=
  (.seq (.ret (.lstE (.comp [1] (.nm 1) (.cmp .Is (.fn 1 (.cons (.var 0) (.cons (.var 1) .nil))) .non) (.var 1) (.seqI (.fn 0 (.cons (.var 0) .nil))))))
  .nil)
noncomputable def s_steady_by : DS :=
  (sSeq (sRet (eLst (lComp [1] (bNm 1) (tCmp gIs (eFn 2 d_broken_by (lCons (eVar 0) (lCons (eVar 1) lNil))) (eC .non)) (eVar 1) (iSeq (eFn 1 d_matchings_by (lCons (eVar 0) lNil))))))
  sSkip)
noncomputable def d_steady_by : Fn := fnD 1 2 s_steady_by
noncomputable abbrev T_steady_by : Tab := tab Z [("matchings_by", 1, d_matchings_by), ("broken_by", 2, d_broken_by)] [] none []
theorem e_steady_by : denS (T_steady_by) q_steady_by = s_steady_by := rfl
theorem c_steady_by : (scB [("market" : Str), ("row" : Str)] [("market" : Str)] D_steady_by.scope && okB (T_steady_by) [("market" : Str), ("row" : Str)] ⟨D_steady_by.scope, D_steady_by.scope⟩ q_steady_by D_steady_by.body) = true := by kernel_rfl
/-! all_steady: slots 0:market -/
def q_all_steady : QS :=
  (.seq (.ret (.bi .tup (.cons (.fn 0 (.cons (.var 0) .nil)) .nil)))
  .nil)
noncomputable def s_all_steady : DS :=
  (sSeq (sRet (eCall (g1 gTup) (lCons (eFn 1 d_steady_by (lCons (eVar 0) lNil)) lNil)))
  sSkip)
noncomputable def d_all_steady : Fn := fnD 1 1 s_all_steady
noncomputable abbrev T_all_steady : Tab := tab Z [("steady_by", 1, d_steady_by)] [] none []
theorem e_all_steady : denS (T_all_steady) q_all_steady = s_all_steady := rfl
theorem c_all_steady : (scB [("market" : Str)] [("market" : Str)] D_all_steady.scope && okB (T_all_steady) [("market" : Str)] ⟨D_all_steady.scope, D_all_steady.scope⟩ q_all_steady D_all_steady.body) = true := by kernel_rfl
/-! refused_by: slots 0:market 1:answerer 2:kept 3:asker -/
def q_refused_by : QS :=
  (.seq (.ret (.iteE (.tru (.fn 0 (.cons (.ix (.fld "answers" (.var 0)) (.var 1)) (.cons (.var 3) (.cons (.var 2) .nil))))) (.var 2) (.var 3)))
  .nil)
noncomputable def s_refused_by : DS :=
  (sSeq (sRet (eIf (tE (eFn 3 d_would_rather (lCons (eBin gIx (eUn (gFld "answers") (eVar 0)) (eVar 1)) (lCons (eVar 3) (lCons (eVar 2) lNil))))) (eVar 2) (eVar 3)))
  sSkip)
noncomputable def d_refused_by : Fn := fnD 4 4 s_refused_by
noncomputable abbrev T_refused_by : Tab := tab Z [("would_rather", 3, d_would_rather)] [] none []
theorem e_refused_by : denS (T_refused_by) q_refused_by = s_refused_by := rfl
theorem c_refused_by : (scB [("market" : Str), ("answerer" : Str), ("kept" : Str), ("asker" : Str)] [("market" : Str), ("answerer" : Str), ("kept" : Str), ("asker" : Str)] D_refused_by.scope && okB (T_refused_by) [("market" : Str), ("answerer" : Str), ("kept" : Str), ("asker" : Str)] ⟨D_refused_by.scope, D_refused_by.scope⟩ q_refused_by D_refused_by.body) = true := by kernel_rfl
/-! asking_by: slots 0:market 1:asked 2:kept 3:found 4:alone 5:open_ones 6:asker 7:answerer 8:refused 9:ends -/
def q_asking_by : QS :=
  (.seq (.parT [1, 2, 3] [(.ow (.rep (.lstE (.disp (.cons (.int 0) .nil))) (.bi .len (.cons (.fld "asks" (.var 0)) .nil)))), (.ow (.rep (.lstE (.disp (.cons .non .nil))) (.bi .len (.cons (.fld "answers" (.var 0)) .nil)))), (.ow (.disp .nil))])
  (.seq (.whl (.tru (.bl true))
  (.seq (.ownC 4 (.comp [6] (.nm 6) (.cmp .NotIn (.var 6) (.vb 2)) (.var 6) (.rng1 (.bi .len (.cons (.fld "asks" (.var 0)) .nil)))))
  (.seq (.fz 4 (.ownC 5 (.comp [6] (.nm 6) (.cmp .Lt (.ix (.vb 1) (.var 6)) (.bi .len (.cons (.ix (.fld "asks" (.var 0)) (.var 6)) .nil))) (.var 6) (.seqI (.var 4)))))
  (.seq (.ite (.notT (.tru (.vb 5)))
  (.seq .brk
  .nil)
  .nil)
  (.seq (.set 6 (.ix (.vb 5) (.int 0)))
  (.seq (.set 7 (.ix (.ix (.fld "asks" (.var 0)) (.var 6)) (.ix (.vb 1) (.var 6))))
  (.seq (.asg (.bin .Add (.ix (.vb 1) (.var 6)) (.int 1)) (.ix 1 (.var 6)))
  (.seq (.set 8 (.fn 0 (.cons (.var 0) (.cons (.var 7) (.cons (.ix (.vb 2) (.var 7)) (.cons (.var 6) .nil))))))
  (.seq (.app 3 (.tup (.cons (.var 6) (.cons (.var 7) (.cons (.var 8) .nil)))))
  (.seq (.ite (.cmp .NotEq (.var 8) (.var 6))
  (.seq (.asg (.var 6) (.ix 2 (.var 7)))
  .nil)
  .nil)
  .nil))))))))))
  (.seq (.ownC 9 (.comp [6] (.nm 6) .yes (.iteE (.cmp .In (.var 6) (.vb 2)) (.idx (.vb 2) (.cons (.var 6) .nil)) .non) (.rng1 (.bi .len (.cons (.fld "asks" (.var 0)) .nil)))))
  (.seq (.ret (.tup (.cons (.bi .tup (.cons (.vb 3) .nil)) (.cons (.bi .tup (.cons (.vb 9) .nil)) .nil))))
  .nil))))
noncomputable def s_asking_by : DS :=
  (sSeq (sPar [1, 2, 3] (ksCons (kOw (lRep (eLst (lDisp (lCons (eC (.int 0)) lNil))) (eCall (g1 gLen) (lCons (eUn (gFld "asks") (eVar 0)) lNil)))) (ksCons (kOw (lRep (eLst (lDisp (lCons (eC .non) lNil))) (eCall (g1 gLen) (lCons (eUn (gFld "answers") (eVar 0)) lNil)))) (ksCons (kOw (lDisp lNil)) ksNil))))
  (sSeq (sWhile (tE (eC (.bl true)))
  (sSeq (sOwn 4 (lComp [6] (bNm 6) (tCmp gNotIn (eVar 6) (eVb 2)) (eVar 6) (iRng1 (eCall (g1 gLen) (lCons (eUn (gFld "asks") (eVar 0)) lNil)))))
  (sSeq (sFz 4 (sOwn 5 (lComp [6] (bNm 6) (tCmp gLt (eBin gIx (eVb 1) (eVar 6)) (eCall (g1 gLen) (lCons (eBin gIx (eUn (gFld "asks") (eVar 0)) (eVar 6)) lNil))) (eVar 6) (iSeq (eVar 4)))))
  (sSeq (sIf (tNot (tE (eVb 5)))
  (sSeq sBrk
  sSkip)
  sSkip)
  (sSeq (sSet 6 (eBin gIx (eVb 5) (eC (.int 0))))
  (sSeq (sSet 7 (eBin gIx (eBin gIx (eUn (gFld "asks") (eVar 0)) (eVar 6)) (eBin gIx (eVb 1) (eVar 6))))
  (sSeq (sAsg (eBin gAdd (eBin gIx (eVb 1) (eVar 6)) (eC (.int 1))) (pIx 1 (eVar 6)))
  (sSeq (sSet 8 (eFn 4 d_refused_by (lCons (eVar 0) (lCons (eVar 7) (lCons (eBin gIx (eVb 2) (eVar 7)) (lCons (eVar 6) lNil))))))
  (sSeq (sApp 3 (eTup (lCons (eVar 6) (lCons (eVar 7) (lCons (eVar 8) lNil)))))
  (sSeq (sIf (tCmp gNe (eVar 8) (eVar 6))
  (sSeq (sAsg (eVar 6) (pIx 2 (eVar 7)))
  sSkip)
  sSkip)
  sSkip))))))))))
  (sSeq (sOwn 9 (lComp [6] (bNm 6) tYes (eIf (tCmp gIn (eVar 6) (eVb 2)) (eMz gIndex (eVb 2) (lCons (eVar 6) lNil)) (eC .non)) (iRng1 (eCall (g1 gLen) (lCons (eUn (gFld "asks") (eVar 0)) lNil)))))
  (sSeq (sRet (eTup (lCons (eCall (g1 gTup) (lCons (eVb 3) lNil)) (lCons (eCall (g1 gTup) (lCons (eVb 9) lNil)) lNil))))
  sSkip))))
noncomputable def d_asking_by : Fn := fnD 1 10 s_asking_by
noncomputable abbrev T_asking_by : Tab := tab Z [("refused_by", 4, d_refused_by)] [] none []
theorem e_asking_by : denS (T_asking_by) q_asking_by = s_asking_by := rfl
theorem c_asking_by : (scB [("market" : Str), ("asked" : Str), ("kept" : Str), ("found" : Str), ("alone" : Str), ("open_ones" : Str), ("asker" : Str), ("answerer" : Str), ("refused" : Str), ("ends" : Str)] [("market" : Str)] D_asking_by.scope && okB (T_asking_by) [("market" : Str), ("asked" : Str), ("kept" : Str), ("found" : Str), ("alone" : Str), ("open_ones" : Str), ("asker" : Str), ("answerer" : Str), ("refused" : Str), ("ends" : Str)] ⟨D_asking_by.scope, D_asking_by.scope⟩ q_asking_by D_asking_by.body) = true := by kernel_rfl
/-! asked_by: slots 0:market -/
def q_asked_by : QS :=
  (.seq (.ret (.ix (.fn 0 (.cons (.var 0) .nil)) (.int 1)))
  .nil)
noncomputable def s_asked_by : DS :=
  (sSeq (sRet (eBin gIx (eFn 1 d_asking_by (lCons (eVar 0) lNil)) (eC (.int 1))))
  sSkip)
noncomputable def d_asked_by : Fn := fnD 1 1 s_asked_by
noncomputable abbrev T_asked_by : Tab := tab Z [("asking_by", 1, d_asking_by)] [] none []
theorem e_asked_by : denS (T_asked_by) q_asked_by = s_asked_by := rfl
theorem c_asked_by : (scB [("market" : Str)] [("market" : Str)] D_asked_by.scope && okB (T_asked_by) [("market" : Str)] ⟨D_asked_by.scope, D_asked_by.scope⟩ q_asked_by D_asked_by.body) = true := by kernel_rfl
/-! asked_best: slots 0:market -/
def q_asked_best : QS :=
  (.seq (.ret (.fn 0 (.cons (.var 0) .nil)))
  .nil)
noncomputable def s_asked_best : DS :=
  (sSeq (sRet (eFn 1 d_asked_by (lCons (eVar 0) lNil)))
  sSkip)
noncomputable def d_asked_best : Fn := fnD 1 1 s_asked_best
noncomputable abbrev T_asked_best : Tab := tab Z [("asked_by", 1, d_asked_by)] [] none []
theorem e_asked_best : denS (T_asked_best) q_asked_best = s_asked_best := rfl
theorem c_asked_best : (scB [("market" : Str)] [("market" : Str)] D_asked_best.scope && okB (T_asked_best) [("market" : Str)] ⟨D_asked_best.scope, D_asked_best.scope⟩ q_asked_best D_asked_best.body) = true := by kernel_rfl
/-! turned_sides: slots 0:market -/
def q_turned_sides : QS :=
  (.seq (.ret (.mk 0 (.cons (.fld "answers" (.var 0)) (.cons (.fld "asks" (.var 0)) .nil))))
  .nil)
noncomputable def s_turned_sides : DS :=
  (sSeq (sRet (eMk "Market" ["asks", "answers"] 2 d_Market___init__ (lCons (eUn (gFld "answers") (eVar 0)) (lCons (eUn (gFld "asks") (eVar 0)) lNil))))
  sSkip)
noncomputable def d_turned_sides : Fn := fnD 1 1 s_turned_sides
noncomputable abbrev T_turned_sides : Tab := tab Z [] [("Market", ["asks", "answers"], 2, d_Market___init__)] none []
theorem e_turned_sides : denS (T_turned_sides) q_turned_sides = s_turned_sides := rfl
theorem c_turned_sides : (scB [("market" : Str)] [("market" : Str)] D_turned_sides.scope && okB (T_turned_sides) [("market" : Str)] ⟨D_turned_sides.scope, D_turned_sides.scope⟩ q_turned_sides D_turned_sides.body) = true := by kernel_rfl
/-! answered_by: slots 0:market 1:turned -/
def q_answered_by : QS :=
  (.seq (.set 1 (.fn 0 (.cons (.var 0) .nil)))
  (.seq (.ret (.fn 2 (.cons (.var 1) (.cons (.fn 1 (.cons (.var 1) .nil)) .nil))))
  .nil))
noncomputable def s_answered_by : DS :=
  (sSeq (sSet 1 (eFn 1 d_turned_sides (lCons (eVar 0) lNil)))
  (sSeq (sRet (eFn 2 d_turned_by (lCons (eVar 1) (lCons (eFn 1 d_asked_by (lCons (eVar 1) lNil)) lNil))))
  sSkip))
noncomputable def d_answered_by : Fn := fnD 1 2 s_answered_by
noncomputable abbrev T_answered_by : Tab := tab Z [("turned_sides", 1, d_turned_sides), ("asked_by", 1, d_asked_by), ("turned_by", 2, d_turned_by)] [] none []
theorem e_answered_by : denS (T_answered_by) q_answered_by = s_answered_by := rfl
theorem c_answered_by : (scB [("market" : Str), ("turned" : Str)] [("market" : Str)] D_answered_by.scope && okB (T_answered_by) [("market" : Str), ("turned" : Str)] ⟨D_answered_by.scope, D_answered_by.scope⟩ q_answered_by D_answered_by.body) = true := by kernel_rfl
/-! answered_best: slots 0:market -/
def q_answered_best : QS :=
  (.seq (.ret (.fn 0 (.cons (.var 0) .nil)))
  .nil)
noncomputable def s_answered_best : DS :=
  (sSeq (sRet (eFn 1 d_answered_by (lCons (eVar 0) lNil)))
  sSkip)
noncomputable def d_answered_best : Fn := fnD 1 1 s_answered_best
noncomputable abbrev T_answered_best : Tab := tab Z [("answered_by", 1, d_answered_by)] [] none []
theorem e_answered_best : denS (T_answered_best) q_answered_best = s_answered_best := rfl
theorem c_answered_best : (scB [("market" : Str)] [("market" : Str)] D_answered_best.scope && okB (T_answered_best) [("market" : Str)] ⟨D_answered_best.scope, D_answered_best.scope⟩ q_answered_best D_answered_best.body) = true := by kernel_rfl
/-! is_matching: slots 0:market 1:value 2:told 3:one -/
def q_is_matching : QS :=
  (.seq (.ite (.orT (.notT (.tru (.isi false [.ty "tuple"] (.var 1)))) (.oneT (.cmp .NotEq (.bi .len (.cons (.var 1) .nil)) (.bi .len (.cons (.fld "asks" (.var 0)) .nil)))))
  (.seq (.ret (.bl false))
  .nil)
  .nil)
  (.seq (.ownC 2 (.comp [3] (.nm 3) (.cmp .IsNot (.var 3) .non) (.var 3) (.seqI (.var 1))))
  (.seq (.fz 2 (.ite (.notT (.tru (.bi .all (.cons (.lstE (.comp [3] (.nm 3) .yes (.fn 0 (.cons (.var 3) (.cons (.bi .len (.cons (.fld "answers" (.var 0)) .nil)) .nil))) (.seqI (.var 2)))) .nil))))
  (.seq (.ret (.bl false))
  .nil)
  .nil))
  (.seq (.fz 2 (.ret (.cmpE .Eq (.lenD [3] (.nm 3) .yes (.var 3) (.seqI (.var 2))) (.bi .len (.cons (.vb 2) .nil)))))
  .nil))))
noncomputable def s_is_matching : DS :=
  (sSeq (sIf (tOr (tNot (tE (eUn (gIsi Zc [.ty "tuple"]) (eVar 1)))) (tCmp gNe (eCall (g1 gLen) (lCons (eVar 1) lNil)) (eCall (g1 gLen) (lCons (eUn (gFld "asks") (eVar 0)) lNil))))
  (sSeq (sRet (eC (.bl false)))
  sSkip)
  sSkip)
  (sSeq (sOwn 2 (lComp [3] (bNm 3) (tCmp gIsNot (eVar 3) (eC .non)) (eVar 3) (iSeq (eVar 1))))
  (sSeq (sFz 2 (sIf (tNot (tE (eCall (g1 gAll) (lCons (eLst (lComp [3] (bNm 3) tYes (eFn 2 d_is_index (lCons (eVar 3) (lCons (eCall (g1 gLen) (lCons (eUn (gFld "answers") (eVar 0)) lNil)) lNil))) (iSeq (eVar 2)))) lNil))))
  (sSeq (sRet (eC (.bl false)))
  sSkip)
  sSkip))
  (sSeq (sFz 2 (sRet (eT (tCmp gEq (eLenD (lComp [3] (bNm 3) tYes (eVar 3) (iSeq (eVar 2)))) (eCall (g1 gLen) (lCons (eVb 2) lNil))))))
  sSkip))))
noncomputable def d_is_matching : Fn := fnD 2 4 s_is_matching
noncomputable abbrev T_is_matching : Tab := tab Z [("is_index", 2, d_is_index)] [] none []
theorem e_is_matching : denS (T_is_matching) q_is_matching = s_is_matching := rfl
theorem c_is_matching : (scB [("market" : Str), ("value" : Str), ("told" : Str), ("one" : Str)] [("market" : Str), ("value" : Str)] D_is_matching.scope && okB (T_is_matching) [("market" : Str), ("value" : Str), ("told" : Str), ("one" : Str)] ⟨D_is_matching.scope, D_is_matching.scope⟩ q_is_matching D_is_matching.body) = true := by kernel_rfl
/-! need_steady: slots 0:market 1:what 2:matching 3:known -/
def q_need_steady : QS :=
  (.seq (.set 3 (.iteE (.tru (.isi false [.ty "list"] (.var 2))) (.bi .tup (.cons (.var 2) .nil)) (.var 2)))
  (.seq (.ite (.orT (.notT (.tru (.fn 0 (.cons (.var 0) (.cons (.var 3) .nil))))) (.oneT (.cmp .IsNot (.fn 1 (.cons (.var 0) (.cons (.var 3) .nil))) .non)))
  (.seq .no
  .nil)
  .nil)
  (.seq (.ret (.var 3))
  .nil)))
noncomputable def s_need_steady : DS :=
  (sSeq (sSet 3 (eIf (tE (eUn (gIsi Zc [.ty "list"]) (eVar 2))) (eCall (g1 gTup) (lCons (eVar 2) lNil)) (eVar 2)))
  (sSeq (sIf (tOr (tNot (tE (eFn 2 d_is_matching (lCons (eVar 0) (lCons (eVar 3) lNil))))) (tCmp gIsNot (eFn 2 d_broken_by (lCons (eVar 0) (lCons (eVar 3) lNil))) (eC .non)))
  (sSeq sNo
  sSkip)
  sSkip)
  (sSeq (sRet (eVar 3))
  sSkip)))
noncomputable def d_need_steady : Fn := fnD 3 4 s_need_steady
noncomputable abbrev T_need_steady : Tab := tab Z [("is_matching", 2, d_is_matching), ("broken_by", 2, d_broken_by)] [] none []
theorem e_need_steady : denS (T_need_steady) q_need_steady = s_need_steady := rfl
theorem c_need_steady : (scB [("market" : Str), ("what" : Str), ("matching" : Str), ("known" : Str)] [("market" : Str), ("what" : Str), ("matching" : Str)] D_need_steady.scope && okB (T_need_steady) [("market" : Str), ("what" : Str), ("matching" : Str), ("known" : Str)] ⟨D_need_steady.scope, D_need_steady.scope⟩ q_need_steady D_need_steady.body) = true := by kernel_rfl
/-! would_rather_than: slots 0:told 1:one 2:other -/
def q_would_rather_than : QS :=
  (.seq (.ret (.andE (.cmpE .IsNot (.var 1) .non) (.oneE (.fn 0 (.cons (.var 0) (.cons (.var 1) (.cons (.var 2) .nil)))))))
  .nil)
noncomputable def s_would_rather_than : DS :=
  (sSeq (sRet (eAnd (eT (tCmp gIsNot (eVar 1) (eC .non))) (eFn 3 d_would_rather (lCons (eVar 0) (lCons (eVar 1) (lCons (eVar 2) lNil))))))
  sSkip)
noncomputable def d_would_rather_than : Fn := fnD 3 3 s_would_rather_than
noncomputable abbrev T_would_rather_than : Tab := tab Z [("would_rather", 3, d_would_rather)] [] none []
theorem e_would_rather_than : denS (T_would_rather_than) q_would_rather_than = s_would_rather_than := rfl
theorem c_would_rather_than : (scB [("told" : Str), ("one" : Str), ("other" : Str)] [("told" : Str), ("one" : Str), ("other" : Str)] D_would_rather_than.scope && okB (T_would_rather_than) [("told" : Str), ("one" : Str), ("other" : Str)] ⟨D_would_rather_than.scope, D_would_rather_than.scope⟩ q_would_rather_than D_would_rather_than.body) = true := by kernel_rfl
/-! better_of: slots 0:market 1:matching 2:other 3:one 4:two 5:found 6:asker 7:told -/
def q_better_of : QS :=
  (.seq (.set 3 (.fn 0 (.cons (.var 0) (.cons (.str "matching") (.cons (.var 1) .nil)))))
  (.seq (.set 4 (.fn 0 (.cons (.var 0) (.cons (.str "other") (.cons (.var 2) .nil)))))
  (.seq (.own 5 (.disp .nil))
  (.seq (.for (.tup (.cons (.nm 6) (.cons (.nm 7) .nil))) (.enu (.cons (.fld "asks" (.var 0)) .nil))
  (.seq (.app 5 (.iteE (.tru (.fn 1 (.cons (.var 7) (.cons (.ix (.var 4) (.var 6)) (.cons (.ix (.var 3) (.var 6)) .nil))))) (.ix (.var 4) (.var 6)) (.ix (.var 3) (.var 6))))
  .nil))
  (.seq (.ret (.bi .tup (.cons (.vb 5) .nil)))
  .nil)))))
noncomputable def s_better_of : DS :=
  (sSeq (sSet 3 (eFn 3 d_need_steady (lCons (eVar 0) (lCons (eC (.str "matching")) (lCons (eVar 1) lNil)))))
  (sSeq (sSet 4 (eFn 3 d_need_steady (lCons (eVar 0) (lCons (eC (.str "other")) (lCons (eVar 2) lNil)))))
  (sSeq (sOwn 5 (lDisp lNil))
  (sSeq (sFor (bTup 2 (bCons (bNm 6) (bCons (bNm 7) bNil))) (iEnu (lCons (eUn (gFld "asks") (eVar 0)) lNil))
  (sSeq (sApp 5 (eIf (tE (eFn 3 d_would_rather_than (lCons (eVar 7) (lCons (eBin gIx (eVar 4) (eVar 6)) (lCons (eBin gIx (eVar 3) (eVar 6)) lNil))))) (eBin gIx (eVar 4) (eVar 6)) (eBin gIx (eVar 3) (eVar 6))))
  sSkip))
  (sSeq (sRet (eCall (g1 gTup) (lCons (eVb 5) lNil)))
  sSkip)))))
noncomputable def d_better_of : Fn := fnD 3 8 s_better_of
noncomputable abbrev T_better_of : Tab := tab Z [("need_steady", 3, d_need_steady), ("would_rather_than", 3, d_would_rather_than)] [] none []
theorem e_better_of : denS (T_better_of) q_better_of = s_better_of := rfl
theorem c_better_of : (scB [("market" : Str), ("matching" : Str), ("other" : Str), ("one" : Str), ("two" : Str), ("found" : Str), ("asker" : Str), ("told" : Str)] [("market" : Str), ("matching" : Str), ("other" : Str)] D_better_of.scope && okB (T_better_of) [("market" : Str), ("matching" : Str), ("other" : Str), ("one" : Str), ("two" : Str), ("found" : Str), ("asker" : Str), ("told" : Str)] ⟨D_better_of.scope, D_better_of.scope⟩ q_better_of D_better_of.body) = true := by kernel_rfl
/-! sides_turned: slots 0:market -/
def q_sides_turned : QS :=
  (.seq (.ret (.fn 0 (.cons (.var 0) .nil)))
  .nil)
noncomputable def s_sides_turned : DS :=
  (sSeq (sRet (eFn 1 d_turned_sides (lCons (eVar 0) lNil)))
  sSkip)
noncomputable def d_sides_turned : Fn := fnD 1 1 s_sides_turned
noncomputable abbrev T_sides_turned : Tab := tab Z [("turned_sides", 1, d_turned_sides)] [] none []
theorem e_sides_turned : denS (T_sides_turned) q_sides_turned = s_sides_turned := rfl
theorem c_sides_turned : (scB [("market" : Str)] [("market" : Str)] D_sides_turned.scope && okB (T_sides_turned) [("market" : Str)] ⟨D_sides_turned.scope, D_sides_turned.scope⟩ q_sides_turned D_sides_turned.body) = true := by kernel_rfl
/-! need_matching: slots 0:market 1:what 2:matching 3:known -/
def q_need_matching : QS :=
  (.seq (.set 3 (.iteE (.tru (.isi false [.ty "list"] (.var 2))) (.bi .tup (.cons (.var 2) .nil)) (.var 2)))
  (.seq (.ite (.notT (.tru (.fn 0 (.cons (.var 0) (.cons (.var 3) .nil)))))
  (.seq .no
  .nil)
  .nil)
  (.seq (.ret (.var 3))
  .nil)))
noncomputable def s_need_matching : DS :=
  (sSeq (sSet 3 (eIf (tE (eUn (gIsi Zc [.ty "list"]) (eVar 2))) (eCall (g1 gTup) (lCons (eVar 2) lNil)) (eVar 2)))
  (sSeq (sIf (tNot (tE (eFn 2 d_is_matching (lCons (eVar 0) (lCons (eVar 3) lNil)))))
  (sSeq sNo
  sSkip)
  sSkip)
  (sSeq (sRet (eVar 3))
  sSkip)))
noncomputable def d_need_matching : Fn := fnD 3 4 s_need_matching
noncomputable abbrev T_need_matching : Tab := tab Z [("is_matching", 2, d_is_matching)] [] none []
theorem e_need_matching : denS (T_need_matching) q_need_matching = s_need_matching := rfl
theorem c_need_matching : (scB [("market" : Str), ("what" : Str), ("matching" : Str), ("known" : Str)] [("market" : Str), ("what" : Str), ("matching" : Str)] D_need_matching.scope && okB (T_need_matching) [("market" : Str), ("what" : Str), ("matching" : Str), ("known" : Str)] ⟨D_need_matching.scope, D_need_matching.scope⟩ q_need_matching D_need_matching.body) = true := by kernel_rfl
/-! matching_turned: slots 0:market 1:matching -/
def q_matching_turned : QS :=
  (.seq (.ret (.fn 1 (.cons (.var 0) (.cons (.fn 0 (.cons (.var 0) (.cons (.str "matching") (.cons (.var 1) .nil)))) .nil))))
  .nil)
noncomputable def s_matching_turned : DS :=
  (sSeq (sRet (eFn 2 d_turned_by (lCons (eVar 0) (lCons (eFn 3 d_need_matching (lCons (eVar 0) (lCons (eC (.str "matching")) (lCons (eVar 1) lNil)))) lNil))))
  sSkip)
noncomputable def d_matching_turned : Fn := fnD 2 2 s_matching_turned
noncomputable abbrev T_matching_turned : Tab := tab Z [("need_matching", 3, d_need_matching), ("turned_by", 2, d_turned_by)] [] none []
theorem e_matching_turned : denS (T_matching_turned) q_matching_turned = s_matching_turned := rfl
theorem c_matching_turned : (scB [("market" : Str), ("matching" : Str)] [("market" : Str), ("matching" : Str)] D_matching_turned.scope && okB (T_matching_turned) [("market" : Str), ("matching" : Str)] ⟨D_matching_turned.scope, D_matching_turned.scope⟩ q_matching_turned D_matching_turned.body) = true := by kernel_rfl
/-! _law_worse_of: slots 0:made 1:one 2:other 3:back -/
def q__law_worse_of : QS :=
  (.seq (.set 3 (.fn 0 (.cons (.var 0) .nil)))
  (.seq (.ret (.fn 1 (.cons (.var 3) (.cons (.fn 2 (.cons (.var 3) (.cons (.fn 1 (.cons (.var 0) (.cons (.var 1) .nil))) (.cons (.fn 1 (.cons (.var 0) (.cons (.var 2) .nil))) .nil)))) .nil))))
  .nil))
noncomputable def s__law_worse_of : DS :=
  (sSeq (sSet 3 (eFn 1 d_sides_turned (lCons (eVar 0) lNil)))
  (sSeq (sRet (eFn 2 d_matching_turned (lCons (eVar 3) (lCons (eFn 3 d_better_of (lCons (eVar 3) (lCons (eFn 2 d_matching_turned (lCons (eVar 0) (lCons (eVar 1) lNil))) (lCons (eFn 2 d_matching_turned (lCons (eVar 0) (lCons (eVar 2) lNil))) lNil)))) lNil))))
  sSkip))
noncomputable def d__law_worse_of : Fn := fnD 3 4 s__law_worse_of
noncomputable abbrev T__law_worse_of : Tab := tab Z [("sides_turned", 1, d_sides_turned), ("matching_turned", 2, d_matching_turned), ("better_of", 3, d_better_of)] [] none []
theorem e__law_worse_of : denS (T__law_worse_of) q__law_worse_of = s__law_worse_of := rfl
theorem c__law_worse_of : (scB [("made" : Str), ("one" : Str), ("other" : Str), ("back" : Str)] [("made" : Str), ("one" : Str), ("other" : Str)] D__law_worse_of.scope && okB (T__law_worse_of) [("made" : Str), ("one" : Str), ("other" : Str), ("back" : Str)] ⟨D__law_worse_of.scope, D__law_worse_of.scope⟩ q__law_worse_of D__law_worse_of.body) = true := by kernel_rfl
/-! _law_is: slots 0:told 1:due 2:at -/
def q__law_is : QS :=
  (.seq (.ite (.tru (.isi false [.ty "tuple"] (.var 1)))
  (.seq (.ite (.orT (.notT (.tru (.isi false [.ty "tuple"] (.var 0)))) (.oneT (.cmp .NotEq (.bi .len (.cons (.var 0) .nil)) (.bi .len (.cons (.var 1) .nil)))))
  (.seq (.ret (.bl false))
  .nil)
  .nil)
  (.seq (.ret (.cmpE .Eq (.lstE (.comp [2] (.nm 2) (.notT (.tru (.fn 0 (.cons (.ix (.var 0) (.var 2)) (.cons (.ix (.var 1) (.var 2)) .nil))))) (.var 2) (.rng1 (.bi .len (.cons (.var 1) .nil))))) (.lstE (.disp .nil))))
  .nil))
  .nil)
  (.seq (.ite (.cmp .Is (.var 1) .non)
  (.seq (.ret (.cmpE .Is (.var 0) .non))
  .nil)
  .nil)
  (.seq (.ite (.cmp .Is (.var 1) (.bl true))
  (.seq (.ret (.cmpE .Is (.var 0) (.bl true)))
  .nil)
  .nil)
  (.seq (.ite (.cmp .Is (.var 1) (.bl false))
  (.seq (.ret (.cmpE .Is (.var 0) (.bl false)))
  .nil)
  .nil)
  (.seq (.ite (.tru (.isi false [.ty "str"] (.var 1)))
  (.seq (.ret (.andE (.isi false [.ty "str"] (.var 0)) (.oneE (.cmpE .Eq (.var 0) (.var 1)))))
  .nil)
  .nil)
  (.seq (.ret (.andE (.isi false [.ty "int"] (.var 0)) (.andE (.notE (.isi false [.ty "bool"] (.var 0))) (.oneE (.cmpE .Eq (.var 0) (.var 1))))))
  .nil))))))
noncomputable def s__law_is (self : Fn) : DS :=
  (sSeq (sIf (tE (eUn (gIsi Zc [.ty "tuple"]) (eVar 1)))
  (sSeq (sIf (tOr (tNot (tE (eUn (gIsi Zc [.ty "tuple"]) (eVar 0)))) (tCmp gNe (eCall (g1 gLen) (lCons (eVar 0) lNil)) (eCall (g1 gLen) (lCons (eVar 1) lNil))))
  (sSeq (sRet (eC (.bl false)))
  sSkip)
  sSkip)
  (sSeq (sRet (eT (tCmp gEq (eLst (lComp [2] (bNm 2) (tNot (tE (eFn 2 self (lCons (eBin gIx (eVar 0) (eVar 2)) (lCons (eBin gIx (eVar 1) (eVar 2)) lNil))))) (eVar 2) (iRng1 (eCall (g1 gLen) (lCons (eVar 1) lNil))))) (eLst (lDisp lNil)))))
  sSkip))
  sSkip)
  (sSeq (sIf (tCmp gIs (eVar 1) (eC .non))
  (sSeq (sRet (eT (tCmp gIs (eVar 0) (eC .non))))
  sSkip)
  sSkip)
  (sSeq (sIf (tCmp gIs (eVar 1) (eC (.bl true)))
  (sSeq (sRet (eT (tCmp gIs (eVar 0) (eC (.bl true)))))
  sSkip)
  sSkip)
  (sSeq (sIf (tCmp gIs (eVar 1) (eC (.bl false)))
  (sSeq (sRet (eT (tCmp gIs (eVar 0) (eC (.bl false)))))
  sSkip)
  sSkip)
  (sSeq (sIf (tE (eUn (gIsi Zc [.ty "str"]) (eVar 1)))
  (sSeq (sRet (eAnd (eUn (gIsi Zc [.ty "str"]) (eVar 0)) (eT (tCmp gEq (eVar 0) (eVar 1)))))
  sSkip)
  sSkip)
  (sSeq (sRet (eAnd (eUn (gIsi Zc [.ty "int"]) (eVar 0)) (eAnd (eT (tNot (tE (eUn (gIsi Zc [.ty "bool"]) (eVar 0))))) (eT (tCmp gEq (eVar 0) (eVar 1))))))
  sSkip))))))
noncomputable def d__law_is_ : Nat → Fn
  | 0 => fun _ _ => none
  | i + 1 => fnD 2 3 (s__law_is (d__law_is_ i))
noncomputable def d__law_is : Fn := d__law_is_ 8
noncomputable abbrev T__law_is (self : Fn) : Tab := tab Z [("_law_is", 2, self)] [] none []
theorem e__law_is (self : Fn) : denS (T__law_is self) q__law_is = s__law_is self := rfl
theorem c__law_is (self : Fn) : (scB [("told" : Str), ("due" : Str), ("at" : Str)] [("told" : Str), ("due" : Str)] D__law_is.scope && okB (T__law_is self) [("told" : Str), ("due" : Str), ("at" : Str)] ⟨D__law_is.scope, D__law_is.scope⟩ q__law_is D__law_is.body) = true := by kernel_rfl
/-! _law_match_key: slots 0:row 1:one -/
def q__law_match_key : QS :=
  (.seq (.ret (.bi .tup (.cons (.lstE (.comp [1] (.nm 1) .yes (.iteE (.cmp .Is (.var 1) .non) (.neg (.int 1)) (.var 1)) (.seqI (.var 0)))) .nil)))
  .nil)
noncomputable def s__law_match_key : DS :=
  (sSeq (sRet (eCall (g1 gTup) (lCons (eLst (lComp [1] (bNm 1) tYes (eIf (tCmp gIs (eVar 1) (eC .non)) (eUn gNeg (eC (.int 1))) (eVar 1)) (iSeq (eVar 0)))) lNil)))
  sSkip)
noncomputable def d__law_match_key : Fn := fnD 1 2 s__law_match_key
noncomputable abbrev T__law_match_key : Tab := tab Z [] [] none []
theorem e__law_match_key : denS (T__law_match_key) q__law_match_key = s__law_match_key := rfl
theorem c__law_match_key : (scB [("row" : Str), ("one" : Str)] [("row" : Str)] D__law_match_key.scope && okB (T__law_match_key) [("row" : Str), ("one" : Str)] ⟨D__law_match_key.scope, D__law_match_key.scope⟩ q__law_match_key D__law_match_key.body) = true := by kernel_rfl
/-! _law_two_right: slots 0:made 1:one 2:other 3:steady 4:up 5:down 6:asker -/
def q__law_two_right : QS :=
  (.seq (.par [("up" : Str), ("down" : Str)] [4, 5] [(.sh (.fn 0 (.cons (.var 0) (.cons (.var 1) (.cons (.var 2) .nil))))), (.sh (.fn 1 (.cons (.var 0) (.cons (.var 1) (.cons (.var 2) .nil)))))])
  (.seq (.ite (.orT (.cmp .NotIn (.var 4) (.var 3)) (.orT (.cmp .NotIn (.var 5) (.var 3)) (.oneT (.notT (.tru (.fn 2 (.cons (.tup (.cons (.fn 0 (.cons (.var 0) (.cons (.var 2) (.cons (.var 1) .nil)))) (.cons (.fn 1 (.cons (.var 0) (.cons (.var 2) (.cons (.var 1) .nil)))) .nil))) (.cons (.tup (.cons (.var 4) (.cons (.var 5) .nil))) .nil))))))))
  (.seq (.ret (.bl false))
  .nil)
  .nil)
  (.seq (.ite (.notT (.tru (.fn 2 (.cons (.tup (.cons (.fn 0 (.cons (.var 0) (.cons (.var 1) (.cons (.var 5) .nil)))) (.cons (.fn 1 (.cons (.var 0) (.cons (.var 1) (.cons (.var 4) .nil)))) (.cons (.fn 0 (.cons (.var 0) (.cons (.var 1) (.cons (.var 1) .nil)))) (.cons (.fn 1 (.cons (.var 0) (.cons (.var 1) (.cons (.var 1) .nil)))) .nil))))) (.cons (.tup (.cons (.var 1) (.cons (.var 1) (.cons (.var 1) (.cons (.var 1) .nil))))) .nil)))))
  (.seq (.ret (.bl false))
  .nil)
  .nil)
  (.seq (.for (.nm 6) (.rng1 (.bi .len (.cons (.var 1) .nil)))
  (.seq (.ite (.cmp .NotIn (.fn 3 (.cons (.tup (.cons (.ix (.var 4) (.var 6)) (.cons (.ix (.var 5) (.var 6)) .nil))) .nil)) (.tup (.cons (.fn 3 (.cons (.tup (.cons (.ix (.var 1) (.var 6)) (.cons (.ix (.var 2) (.var 6)) .nil))) .nil)) (.cons (.fn 3 (.cons (.tup (.cons (.ix (.var 2) (.var 6)) (.cons (.ix (.var 1) (.var 6)) .nil))) .nil)) .nil))))
  (.seq (.ret (.bl false))
  .nil)
  .nil)
  .nil))
  (.seq (.ret (.bl true))
  .nil)))))
noncomputable def s__law_two_right : DS :=
  (sSeq (sPar [4, 5] (ksCons (kSh (eFn 3 d_better_of (lCons (eVar 0) (lCons (eVar 1) (lCons (eVar 2) lNil))))) (ksCons (kSh (eFn 3 d__law_worse_of (lCons (eVar 0) (lCons (eVar 1) (lCons (eVar 2) lNil))))) ksNil)))
  (sSeq (sIf (tOr (tCmp gNotIn (eVar 4) (eVar 3)) (tOr (tCmp gNotIn (eVar 5) (eVar 3)) (tNot (tE (eFn 2 d__law_is (lCons (eTup (lCons (eFn 3 d_better_of (lCons (eVar 0) (lCons (eVar 2) (lCons (eVar 1) lNil)))) (lCons (eFn 3 d__law_worse_of (lCons (eVar 0) (lCons (eVar 2) (lCons (eVar 1) lNil)))) lNil))) (lCons (eTup (lCons (eVar 4) (lCons (eVar 5) lNil))) lNil)))))))
  (sSeq (sRet (eC (.bl false)))
  sSkip)
  sSkip)
  (sSeq (sIf (tNot (tE (eFn 2 d__law_is (lCons (eTup (lCons (eFn 3 d_better_of (lCons (eVar 0) (lCons (eVar 1) (lCons (eVar 5) lNil)))) (lCons (eFn 3 d__law_worse_of (lCons (eVar 0) (lCons (eVar 1) (lCons (eVar 4) lNil)))) (lCons (eFn 3 d_better_of (lCons (eVar 0) (lCons (eVar 1) (lCons (eVar 1) lNil)))) (lCons (eFn 3 d__law_worse_of (lCons (eVar 0) (lCons (eVar 1) (lCons (eVar 1) lNil)))) lNil))))) (lCons (eTup (lCons (eVar 1) (lCons (eVar 1) (lCons (eVar 1) (lCons (eVar 1) lNil))))) lNil)))))
  (sSeq (sRet (eC (.bl false)))
  sSkip)
  sSkip)
  (sSeq (sFor (bNm 6) (iRng1 (eCall (g1 gLen) (lCons (eVar 1) lNil)))
  (sSeq (sIf (tCmp gNotIn (eFn 1 d__law_match_key (lCons (eTup (lCons (eBin gIx (eVar 4) (eVar 6)) (lCons (eBin gIx (eVar 5) (eVar 6)) lNil))) lNil)) (eTup (lCons (eFn 1 d__law_match_key (lCons (eTup (lCons (eBin gIx (eVar 1) (eVar 6)) (lCons (eBin gIx (eVar 2) (eVar 6)) lNil))) lNil)) (lCons (eFn 1 d__law_match_key (lCons (eTup (lCons (eBin gIx (eVar 2) (eVar 6)) (lCons (eBin gIx (eVar 1) (eVar 6)) lNil))) lNil)) lNil))))
  (sSeq (sRet (eC (.bl false)))
  sSkip)
  sSkip)
  sSkip))
  (sSeq (sRet (eC (.bl true)))
  sSkip)))))
noncomputable def d__law_two_right : Fn := fnD 4 7 s__law_two_right
noncomputable abbrev T__law_two_right : Tab := tab Z [("better_of", 3, d_better_of), ("_law_worse_of", 3, d__law_worse_of), ("_law_is", 2, d__law_is), ("_law_match_key", 1, d__law_match_key)] [] none []
theorem e__law_two_right : denS (T__law_two_right) q__law_two_right = s__law_two_right := rfl
theorem c__law_two_right : (scB [("made" : Str), ("one" : Str), ("other" : Str), ("steady" : Str), ("up" : Str), ("down" : Str), ("asker" : Str)] [("made" : Str), ("one" : Str), ("other" : Str), ("steady" : Str)] D__law_two_right.scope && okB (T__law_two_right) [("made" : Str), ("one" : Str), ("other" : Str), ("steady" : Str), ("up" : Str), ("down" : Str), ("asker" : Str)] ⟨D__law_two_right.scope, D__law_two_right.scope⟩ q__law_two_right D__law_two_right.body) = true := by kernel_rfl
/-! _law_three_right: slots 0:made 1:one 2:two 3:three 4:up 5:down -/
def q__law_three_right : QS :=
  (.seq (.par [("up" : Str), ("down" : Str)] [4, 5] [(.sh (.fn 0 (.cons (.var 0) (.cons (.var 2) (.cons (.var 3) .nil))))), (.sh (.fn 1 (.cons (.var 0) (.cons (.var 2) (.cons (.var 3) .nil)))))])
  (.seq (.ite (.orT (.cmp .NotEq (.fn 0 (.cons (.var 0) (.cons (.fn 0 (.cons (.var 0) (.cons (.var 1) (.cons (.var 2) .nil)))) (.cons (.var 3) .nil)))) (.fn 0 (.cons (.var 0) (.cons (.var 1) (.cons (.var 4) .nil))))) (.oneT (.cmp .NotEq (.fn 1 (.cons (.var 0) (.cons (.fn 1 (.cons (.var 0) (.cons (.var 1) (.cons (.var 2) .nil)))) (.cons (.var 3) .nil)))) (.fn 1 (.cons (.var 0) (.cons (.var 1) (.cons (.var 5) .nil)))))))
  (.seq (.ret (.bl false))
  .nil)
  .nil)
  (.seq (.ret (.cmpE .Eq (.fn 1 (.cons (.var 0) (.cons (.var 1) (.cons (.var 4) .nil)))) (.fn 0 (.cons (.var 0) (.cons (.fn 1 (.cons (.var 0) (.cons (.var 1) (.cons (.var 2) .nil)))) (.cons (.fn 1 (.cons (.var 0) (.cons (.var 1) (.cons (.var 3) .nil)))) .nil))))))
  .nil)))
noncomputable def s__law_three_right : DS :=
  (sSeq (sPar [4, 5] (ksCons (kSh (eFn 3 d_better_of (lCons (eVar 0) (lCons (eVar 2) (lCons (eVar 3) lNil))))) (ksCons (kSh (eFn 3 d__law_worse_of (lCons (eVar 0) (lCons (eVar 2) (lCons (eVar 3) lNil))))) ksNil)))
  (sSeq (sIf (tOr (tCmp gNe (eFn 3 d_better_of (lCons (eVar 0) (lCons (eFn 3 d_better_of (lCons (eVar 0) (lCons (eVar 1) (lCons (eVar 2) lNil)))) (lCons (eVar 3) lNil)))) (eFn 3 d_better_of (lCons (eVar 0) (lCons (eVar 1) (lCons (eVar 4) lNil))))) (tCmp gNe (eFn 3 d__law_worse_of (lCons (eVar 0) (lCons (eFn 3 d__law_worse_of (lCons (eVar 0) (lCons (eVar 1) (lCons (eVar 2) lNil)))) (lCons (eVar 3) lNil)))) (eFn 3 d__law_worse_of (lCons (eVar 0) (lCons (eVar 1) (lCons (eVar 5) lNil))))))
  (sSeq (sRet (eC (.bl false)))
  sSkip)
  sSkip)
  (sSeq (sRet (eT (tCmp gEq (eFn 3 d__law_worse_of (lCons (eVar 0) (lCons (eVar 1) (lCons (eVar 4) lNil)))) (eFn 3 d_better_of (lCons (eVar 0) (lCons (eFn 3 d__law_worse_of (lCons (eVar 0) (lCons (eVar 1) (lCons (eVar 2) lNil)))) (lCons (eFn 3 d__law_worse_of (lCons (eVar 0) (lCons (eVar 1) (lCons (eVar 3) lNil)))) lNil)))))))
  sSkip)))
noncomputable def d__law_three_right : Fn := fnD 4 6 s__law_three_right
noncomputable abbrev T__law_three_right : Tab := tab Z [("better_of", 3, d_better_of), ("_law_worse_of", 3, d__law_worse_of)] [] none []
theorem e__law_three_right : denS (T__law_three_right) q__law_three_right = s__law_three_right := rfl
theorem c__law_three_right : (scB [("made" : Str), ("one" : Str), ("two" : Str), ("three" : Str), ("up" : Str), ("down" : Str)] [("made" : Str), ("one" : Str), ("two" : Str), ("three" : Str)] D__law_three_right.scope && okB (T__law_three_right) [("made" : Str), ("one" : Str), ("two" : Str), ("three" : Str), ("up" : Str), ("down" : Str)] ⟨D__law_three_right.scope, D__law_three_right.scope⟩ q__law_three_right D__law_three_right.body) = true := by kernel_rfl
/-! law: slots 0:script 1:pen 2:lap 3:way 4:market 5:made 6:steady 7:best 8:least 9:one 10:other 11:at -/
def q_law : QS :=
  (.seq (.for (.nm 2) (.rng1 (.int 3))
  (.seq (.set 3 (.fn 0 (.cons (.var 1) (.cons (.int 4) .nil))))
  (.seq (.set 4 (.iteE (.cmp .Eq (.var 3) (.int 0)) (.fn 1 (.cons (.bin .Add (.int 2) (.fn 0 (.cons (.var 1) (.cons (.int 3) .nil)))) .nil)) (.iteE (.cmp .Lt (.var 3) (.int 3)) (.fn 2 (.cons (.var 1) .nil)) (.fn 3 (.cons (.var 1) (.cons (.int 4) .nil))))))
  (.seq (.set 5 (.fn 4 (.cons (.var 4) .nil)))
  (.seq (.set 6 (.fn 5 (.cons (.var 5) .nil)))
  (.seq (.parT [7, 8] [(.sh (.fn 6 (.cons (.var 5) .nil))), (.sh (.fn 7 (.cons (.var 5) .nil)))])
  (.seq (.ite (.orT (.cmp .NotIn (.var 7) (.var 6)) (.orT (.cmp .NotIn (.var 8) (.var 6)) (.oneT (.andT (.cmp .Eq (.var 3) (.int 0)) (.oneT (.cmp .NotEq (.bi .len (.cons (.var 6) .nil)) (.bi .len (.cons (.ix (.var 4) (.int 0)) .nil))))))))
  (.seq (.ret (.bl false))
  .nil)
  .nil)
  (.seq (.for (.nm 9) (.seqI (.var 6))
  (.seq (.ite (.notT (.tru (.fn 10 (.cons (.tup (.cons (.fn 8 (.cons (.var 5) (.cons (.var 7) (.cons (.var 9) .nil)))) (.cons (.fn 9 (.cons (.var 5) (.cons (.var 7) (.cons (.var 9) .nil)))) (.cons (.fn 8 (.cons (.var 5) (.cons (.var 8) (.cons (.var 9) .nil)))) (.cons (.fn 9 (.cons (.var 5) (.cons (.var 8) (.cons (.var 9) .nil)))) .nil))))) (.cons (.tup (.cons (.var 7) (.cons (.var 9) (.cons (.var 9) (.cons (.var 8) .nil))))) .nil)))))
  (.seq (.ret (.bl false))
  .nil)
  .nil)
  (.seq (.ite (.cmp .NotEq (.lstE (.comp [11] (.nm 11) (.cmp .NotEq (.cmpE .Is (.ix (.var 9) (.var 11)) .non) (.cmpE .Is (.ix (.var 7) (.var 11)) .non)) (.var 11) (.rng1 (.bi .len (.cons (.var 9) .nil))))) (.lstE (.disp .nil)))
  (.seq (.ret (.bl false))
  .nil)
  .nil)
  (.seq (.set 10 (.fn 11 (.cons (.var 1) (.cons (.var 6) .nil))))
  (.seq (.ite (.orT (.notT (.tru (.fn 12 (.cons (.var 5) (.cons (.var 9) (.cons (.var 10) (.cons (.var 6) .nil))))))) (.oneT (.notT (.tru (.fn 13 (.cons (.var 5) (.cons (.var 9) (.cons (.var 10) (.cons (.fn 11 (.cons (.var 1) (.cons (.var 6) .nil))) .nil)))))))))
  (.seq (.ret (.bl false))
  .nil)
  .nil)
  .nil)))))
  .nil))))))))
  (.seq (.ret (.bl true))
  .nil))
noncomputable def s_law : DS :=
  (sSeq (sFor (bNm 2) (iRng1 (eC (.int 3)))
  (sSeq (sSet 3 (eFn 2 d__law_draw (lCons (eVar 1) (lCons (eC (.int 4)) lNil))))
  (sSeq (sSet 4 (eIf (tCmp gEq (eVar 3) (eC (.int 0))) (eFn 1 d__law_ring_market (lCons (eBin gAdd (eC (.int 2)) (eFn 2 d__law_draw (lCons (eVar 1) (lCons (eC (.int 3)) lNil)))) lNil)) (eIf (tCmp gLt (eVar 3) (eC (.int 3))) (eFn 1 d__law_full_market (lCons (eVar 1) lNil)) (eFn 2 d__law_drawn_market (lCons (eVar 1) (lCons (eC (.int 4)) lNil))))))
  (sSeq (sSet 5 (eFn 1 d__law_made_market (lCons (eVar 4) lNil)))
  (sSeq (sSet 6 (eFn 1 d_all_steady (lCons (eVar 5) lNil)))
  (sSeq (sPar [7, 8] (ksCons (kSh (eFn 1 d_asked_best (lCons (eVar 5) lNil))) (ksCons (kSh (eFn 1 d_answered_best (lCons (eVar 5) lNil))) ksNil)))
  (sSeq (sIf (tOr (tCmp gNotIn (eVar 7) (eVar 6)) (tOr (tCmp gNotIn (eVar 8) (eVar 6)) (tAnd (tCmp gEq (eVar 3) (eC (.int 0))) (tCmp gNe (eCall (g1 gLen) (lCons (eVar 6) lNil)) (eCall (g1 gLen) (lCons (eBin gIx (eVar 4) (eC (.int 0))) lNil))))))
  (sSeq (sRet (eC (.bl false)))
  sSkip)
  sSkip)
  (sSeq (sFor (bNm 9) (iSeq (eVar 6))
  (sSeq (sIf (tNot (tE (eFn 2 d__law_is (lCons (eTup (lCons (eFn 3 d_better_of (lCons (eVar 5) (lCons (eVar 7) (lCons (eVar 9) lNil)))) (lCons (eFn 3 d__law_worse_of (lCons (eVar 5) (lCons (eVar 7) (lCons (eVar 9) lNil)))) (lCons (eFn 3 d_better_of (lCons (eVar 5) (lCons (eVar 8) (lCons (eVar 9) lNil)))) (lCons (eFn 3 d__law_worse_of (lCons (eVar 5) (lCons (eVar 8) (lCons (eVar 9) lNil)))) lNil))))) (lCons (eTup (lCons (eVar 7) (lCons (eVar 9) (lCons (eVar 9) (lCons (eVar 8) lNil))))) lNil)))))
  (sSeq (sRet (eC (.bl false)))
  sSkip)
  sSkip)
  (sSeq (sIf (tCmp gNe (eLst (lComp [11] (bNm 11) (tCmp gNe (eT (tCmp gIs (eBin gIx (eVar 9) (eVar 11)) (eC .non))) (eT (tCmp gIs (eBin gIx (eVar 7) (eVar 11)) (eC .non)))) (eVar 11) (iRng1 (eCall (g1 gLen) (lCons (eVar 9) lNil))))) (eLst (lDisp lNil)))
  (sSeq (sRet (eC (.bl false)))
  sSkip)
  sSkip)
  (sSeq (sSet 10 (eFn 2 d__law_pick (lCons (eVar 1) (lCons (eVar 6) lNil))))
  (sSeq (sIf (tOr (tNot (tE (eFn 4 d__law_two_right (lCons (eVar 5) (lCons (eVar 9) (lCons (eVar 10) (lCons (eVar 6) lNil))))))) (tNot (tE (eFn 4 d__law_three_right (lCons (eVar 5) (lCons (eVar 9) (lCons (eVar 10) (lCons (eFn 2 d__law_pick (lCons (eVar 1) (lCons (eVar 6) lNil))) lNil))))))))
  (sSeq (sRet (eC (.bl false)))
  sSkip)
  sSkip)
  sSkip)))))
  sSkip))))))))
  (sSeq (sRet (eC (.bl true)))
  sSkip))
noncomputable abbrev T_law : Tab := tab Z [("_law_draw", 2, d__law_draw), ("_law_ring_market", 1, d__law_ring_market), ("_law_full_market", 1, d__law_full_market), ("_law_drawn_market", 2, d__law_drawn_market), ("_law_made_market", 1, d__law_made_market), ("all_steady", 1, d_all_steady), ("asked_best", 1, d_asked_best), ("answered_best", 1, d_answered_best), ("better_of", 3, d_better_of), ("_law_worse_of", 3, d__law_worse_of), ("_law_is", 2, d__law_is), ("_law_pick", 2, d__law_pick), ("_law_two_right", 4, d__law_two_right), ("_law_three_right", 4, d__law_three_right)] [] none []
theorem e_law : denS (T_law) q_law = s_law := rfl
def lawRest : Nat × List Stmt := (lawC [("script" : Str), ("pen" : Str), ("lap" : Str), ("way" : Str), ("market" : Str), ("made" : Str), ("steady" : Str), ("best" : Str), ("least" : Str), ("one" : Str), ("other" : Str), ("at" : Str)] ⟨D_law.scope, D_law.scope⟩ D_law.body).getD (0, [])
theorem c_law0 : lawC [("script" : Str), ("pen" : Str), ("lap" : Str), ("way" : Str), ("market" : Str), ("made" : Str), ("steady" : Str), ("best" : Str), ("least" : Str), ("one" : Str), ("other" : Str), ("at" : Str)] ⟨D_law.scope, D_law.scope⟩ D_law.body = some (1, lawRest.2) := by kernel_rfl
theorem c_law : (scB [("script" : Str), ("pen" : Str), ("lap" : Str), ("way" : Str), ("market" : Str), ("made" : Str), ("steady" : Str), ("best" : Str), ("least" : Str), ("one" : Str), ("other" : Str), ("at" : Str)] [("script" : Str)] D_law.scope && okB T_law [("script" : Str), ("pen" : Str), ("lap" : Str), ("way" : Str), ("market" : Str), ("made" : Str), ("steady" : Str), ("best" : Str), ("least" : Str), ("one" : Str), ("other" : Str), ("at" : Str)] ⟨D_law.scope, D_law.scope⟩ q_law lawRest.2) = true := by kernel_rfl
section
variable {P : Program} {w : World} {K : PySem.W.Frag} {mg : Str → Option Value} {base : Heap}
theorem known__law_pen (e : En Z K mg) : ∃ f fd, FnOk P w K mg base CX0 1 f fd ["script"] (spPen K) ∧ mg "_law_pen" = some (.ref f) ∧ PySem.W.keepIn K (.ref f) = true ∧ Binds K fd ["script"] [] := pen_known (P := P) (w := w) (base := base) (i := 0) (d := D__law_pen) e rfl rfl rfl rfl (fun _ _ _ _ _ _ us hl => match us, hl with | [_], _ => rfl) (by kernel_rfl)
theorem known__law_draw (e : En Z K mg) : Known P w K mg base 1 "_law_draw" 2 d__law_draw := by
  have h := known_of (P := P) (w := w) (base := base) (k := 0) (T := T__law_draw) (N := [("pen" : Str), ("many" : Str), ("cell" : Str), ("digit" : Str), ("blend" : Str)]) (ps := [("pen" : Str), ("many" : Str)]) (s := q__law_draw) (i := 1) (d := D__law_draw) (x := "_law_draw") e (tab_ok e (trivial) (trivial) (fun q hq => by cases hq) (trivial)) rfl rfl rfl rfl (fun _ _ _ _ _ _ us hl => match us, hl with | [_, _], _ => rfl) c__law_draw
  rw [e__law_draw] at h
  exact h
theorem known__law_ring_market (e : En Z K mg) : Known P w K mg base 1 "_law_ring_market" 1 d__law_ring_market := by
  have h := known_of (P := P) (w := w) (base := base) (k := 0) (T := T__law_ring_market) (N := [("many" : Str), ("asks" : Str), ("at" : Str), ("step" : Str)]) (ps := [("many" : Str)]) (s := q__law_ring_market) (i := 2) (d := D__law_ring_market) (x := "_law_ring_market") e (tab_ok e (trivial) (trivial) (fun q hq => by cases hq) (trivial)) rfl rfl rfl rfl (fun _ _ _ _ _ _ us hl => match us, hl with | [_], _ => rfl) c__law_ring_market
  rw [e__law_ring_market] at h
  exact h
theorem known__law_shuffled (e : En Z K mg) : Known P w K mg base 2 "_law_shuffled" 2 d__law_shuffled := by
  have h := known_of (P := P) (w := w) (base := base) (k := 1) (T := T__law_shuffled) (N := [("pen" : Str), ("some" : Str), ("left" : Str), ("found" : Str), ("lap" : Str)]) (ps := [("pen" : Str), ("some" : Str)]) (s := q__law_shuffled) (i := 3) (d := D__law_shuffled) (x := "_law_shuffled") e (tab_ok e (⟨(known__law_draw e).mono (by decide), trivial⟩) (trivial) (fun q hq => by cases hq) (trivial)) rfl rfl rfl rfl (fun _ _ _ _ _ _ us hl => match us, hl with | [_, _], _ => rfl) c__law_shuffled
  rw [e__law_shuffled] at h
  exact h
theorem known__law_full_market (e : En Z K mg) : Known P w K mg base 3 "_law_full_market" 1 d__law_full_market := by
  have h := known_of (P := P) (w := w) (base := base) (k := 2) (T := T__law_full_market) (N := [("pen" : Str), ("many" : Str), ("side" : Str)]) (ps := [("pen" : Str)]) (s := q__law_full_market) (i := 4) (d := D__law_full_market) (x := "_law_full_market") e (tab_ok e (⟨(known__law_draw e).mono (by decide), ⟨(known__law_shuffled e).mono (by decide), trivial⟩⟩) (trivial) (fun q hq => by cases hq) (trivial)) rfl rfl rfl rfl (fun _ _ _ _ _ _ us hl => match us, hl with | [_], _ => rfl) c__law_full_market
  rw [e__law_full_market] at h
  exact h
theorem known__law_pick (e : En Z K mg) : Known P w K mg base 2 "_law_pick" 2 d__law_pick := by
  have h := known_of (P := P) (w := w) (base := base) (k := 1) (T := T__law_pick) (N := [("pen" : Str), ("some" : Str)]) (ps := [("pen" : Str), ("some" : Str)]) (s := q__law_pick) (i := 5) (d := D__law_pick) (x := "_law_pick") e (tab_ok e (⟨(known__law_draw e).mono (by decide), trivial⟩) (trivial) (fun q hq => by cases hq) (trivial)) rfl rfl rfl rfl (fun _ _ _ _ _ _ us hl => match us, hl with | [_, _], _ => rfl) c__law_pick
  rw [e__law_pick] at h
  exact h
theorem known__law_drawn_list (e : En Z K mg) : Known P w K mg base 3 "_law_drawn_list" 2 d__law_drawn_list := by
  have h := known_of (P := P) (w := w) (base := base) (k := 2) (T := T__law_drawn_list) (N := [("pen" : Str), ("wide" : Str), ("row" : Str)]) (ps := [("pen" : Str), ("wide" : Str)]) (s := q__law_drawn_list) (i := 6) (d := D__law_drawn_list) (x := "_law_drawn_list") e (tab_ok e (⟨(known__law_shuffled e).mono (by decide), ⟨(known__law_draw e).mono (by decide), ⟨(known__law_pick e).mono (by decide), trivial⟩⟩⟩) (trivial) (fun q hq => by cases hq) (trivial)) rfl rfl rfl rfl (fun _ _ _ _ _ _ us hl => match us, hl with | [_, _], _ => rfl) c__law_drawn_list
  rw [e__law_drawn_list] at h
  exact h
theorem known__law_drawn_market (e : En Z K mg) : Known P w K mg base 4 "_law_drawn_market" 2 d__law_drawn_market := by
  have h := known_of (P := P) (w := w) (base := base) (k := 3) (T := T__law_drawn_market) (N := [("pen" : Str), ("most" : Str), ("askers" : Str), ("answerers" : Str), ("one" : Str)]) (ps := [("pen" : Str), ("most" : Str)]) (s := q__law_drawn_market) (i := 7) (d := D__law_drawn_market) (x := "_law_drawn_market") e (tab_ok e (⟨(known__law_draw e).mono (by decide), ⟨(known__law_drawn_list e).mono (by decide), trivial⟩⟩) (trivial) (fun q hq => by cases hq) (trivial)) rfl rfl rfl rfl (fun _ _ _ _ _ _ us hl => match us, hl with | [_, _], _ => rfl) c__law_drawn_market
  rw [e__law_drawn_market] at h
  exact h
theorem known_is_whole (e : En Z K mg) : Known P w K mg base 1 "is_whole" 1 d_is_whole := by
  have h := known_of (P := P) (w := w) (base := base) (k := 0) (T := T_is_whole) (N := [("value" : Str)]) (ps := [("value" : Str)]) (s := q_is_whole) (i := 8) (d := D_is_whole) (x := "is_whole") e (tab_ok e (trivial) (trivial) (fun q hq => by cases hq) (trivial)) rfl rfl rfl rfl (fun _ _ _ _ _ _ us hl => match us, hl with | [_], _ => rfl) c_is_whole
  rw [e_is_whole] at h
  exact h
theorem known_is_index (e : En Z K mg) : Known P w K mg base 2 "is_index" 2 d_is_index := by
  have h := known_of (P := P) (w := w) (base := base) (k := 1) (T := T_is_index) (N := [("value" : Str), ("many" : Str)]) (ps := [("value" : Str), ("many" : Str)]) (s := q_is_index) (i := 9) (d := D_is_index) (x := "is_index") e (tab_ok e (⟨(known_is_whole e).mono (by decide), trivial⟩) (trivial) (fun q hq => by cases hq) (trivial)) rfl rfl rfl rfl (fun _ _ _ _ _ _ us hl => match us, hl with | [_, _], _ => rfl) c_is_index
  rw [e_is_index] at h
  exact h
theorem known_is_list (e : En Z K mg) : Known P w K mg base 3 "is_list" 2 d_is_list := by
  have h := known_of (P := P) (w := w) (base := base) (k := 2) (T := T_is_list) (N := [("width" : Str), ("value" : Str), ("one" : Str)]) (ps := [("width" : Str), ("value" : Str)]) (s := q_is_list) (i := 10) (d := D_is_list) (x := "is_list") e (tab_ok e (⟨(known_is_index e).mono (by decide), trivial⟩) (trivial) (fun q hq => by cases hq) (trivial)) rfl rfl rfl rfl (fun _ _ _ _ _ _ us hl => match us, hl with | [_, _], _ => rfl) c_is_list
  rw [e_is_list] at h
  exact h
theorem known_need_lists (e : En Z K mg) : Known P w K mg base 4 "need_lists" 3 d_need_lists := by
  have h := known_of (P := P) (w := w) (base := base) (k := 3) (T := T_need_lists) (N := [("what" : Str), ("lists" : Str), ("width" : Str), ("one" : Str)]) (ps := [("what" : Str), ("lists" : Str), ("width" : Str)]) (s := q_need_lists) (i := 11) (d := D_need_lists) (x := "need_lists") e (tab_ok e (⟨(known_is_list e).mono (by decide), trivial⟩) (trivial) (fun q hq => by cases hq) (trivial)) rfl rfl rfl rfl (fun _ _ _ _ _ _ us hl => match us, hl with | [_, _, _], _ => rfl) c_need_lists
  rw [e_need_lists] at h
  exact h
theorem known_Market___init__ (e : En Z K mg) : KnownI P w K mg base 5 "Market" ["asks", "answers"] 2 d_Market___init__ := by
  have h := knownI_of (P := P) (w := w) (base := base) (k := 4) (T := T_Market___init__) (N := [("self" : Str), ("asks" : Str), ("answers" : Str), ("width" : Str)]) (ps := [("self" : Str), ("asks" : Str), ("answers" : Str)]) (s := q_Market___init__) (i := 12) (d := D_Market___init__) (x := "Market") (fl := ["asks", "answers"]) (n := 2) e (tab_ok e (⟨(known_need_lists e).mono (by decide), trivial⟩) (trivial) (fun q hq => by cases hq; simp [Z]) (trivial)) rfl rfl rfl rfl (fun _ _ _ _ _ _ us hl => match us, hl with | [_, _, _], _ => rfl) rfl (by simp [Z]) (by simp [Z]) c_Market___init__
  rw [e_Market___init__] at h
  exact h
theorem known__law_made_market (e : En Z K mg) : Known P w K mg base 7 "_law_made_market" 1 d__law_made_market := by
  have h := known_of (P := P) (w := w) (base := base) (k := 6) (T := T__law_made_market) (N := [("market" : Str)]) (ps := [("market" : Str)]) (s := q__law_made_market) (i := 13) (d := D__law_made_market) (x := "_law_made_market") e (tab_ok e (trivial) (⟨⟨5, by decide, known_Market___init__ e⟩, trivial⟩) (fun q hq => by cases hq) (trivial)) rfl rfl rfl rfl (fun _ _ _ _ _ _ us hl => match us, hl with | [_], _ => rfl) c__law_made_market
  rw [e__law_made_market] at h
  exact h
theorem known_matchings_by (e : En Z K mg) : Known P w K mg base 1 "matchings_by" 1 d_matchings_by := by
  have h := known_of (P := P) (w := w) (base := base) (k := 0) (T := T_matchings_by) (N := [("market" : Str), ("rows" : Str), ("asker" : Str), ("longer" : Str), ("row" : Str), ("free" : Str), ("one" : Str)]) (ps := [("market" : Str)]) (s := q_matchings_by) (i := 14) (d := D_matchings_by) (x := "matchings_by") e (tab_ok e (trivial) (trivial) (fun q hq => by cases hq) (trivial)) rfl rfl rfl rfl (fun _ _ _ _ _ _ us hl => match us, hl with | [_], _ => rfl) c_matchings_by
  rw [e_matchings_by] at h
  exact h
theorem known_pairs_by (e : En Z K mg) : Known P w K mg base 1 "pairs_by" 1 d_pairs_by := by
  have h := known_of (P := P) (w := w) (base := base) (k := 0) (T := T_pairs_by) (N := [("market" : Str), ("found" : Str), ("asker" : Str), ("answerer" : Str)]) (ps := [("market" : Str)]) (s := q_pairs_by) (i := 15) (d := D_pairs_by) (x := "pairs_by") e (tab_ok e (trivial) (trivial) (fun q hq => by cases hq) (trivial)) rfl rfl rfl rfl (fun _ _ _ _ _ _ us hl => match us, hl with | [_], _ => rfl) c_pairs_by
  rw [e_pairs_by] at h
  exact h
theorem known_turned_by (e : En Z K mg) : Known P w K mg base 1 "turned_by" 2 d_turned_by := by
  have h := known_of (P := P) (w := w) (base := base) (k := 0) (T := T_turned_by) (N := [("market" : Str), ("matching" : Str), ("found" : Str), ("asker" : Str), ("answerer" : Str)]) (ps := [("market" : Str), ("matching" : Str)]) (s := q_turned_by) (i := 16) (d := D_turned_by) (x := "turned_by") e (tab_ok e (trivial) (trivial) (fun q hq => by cases hq) (trivial)) rfl rfl rfl rfl (fun _ _ _ _ _ _ us hl => match us, hl with | [_, _], _ => rfl) c_turned_by
  rw [e_turned_by] at h
  exact h
theorem known_would_rather (e : En Z K mg) : Known P w K mg base 1 "would_rather" 3 d_would_rather := by
  have h := known_of (P := P) (w := w) (base := base) (k := 0) (T := T_would_rather) (N := [("told" : Str), ("one" : Str), ("other" : Str)]) (ps := [("told" : Str), ("one" : Str), ("other" : Str)]) (s := q_would_rather) (i := 17) (d := D_would_rather) (x := "would_rather") e (tab_ok e (trivial) (trivial) (fun q hq => by cases hq) (trivial)) rfl rfl rfl rfl (fun _ _ _ _ _ _ us hl => match us, hl with | [_, _, _], _ => rfl) c_would_rather
  rw [e_would_rather] at h
  exact h
theorem known_is_broken (e : En Z K mg) : Known P w K mg base 2 "is_broken" 4 d_is_broken := by
  have h := known_of (P := P) (w := w) (base := base) (k := 1) (T := T_is_broken) (N := [("market" : Str), ("matching" : Str), ("asker" : Str), ("answerer" : Str), ("back" : Str)]) (ps := [("market" : Str), ("matching" : Str), ("asker" : Str), ("answerer" : Str)]) (s := q_is_broken) (i := 18) (d := D_is_broken) (x := "is_broken") e (tab_ok e (⟨(known_turned_by e).mono (by decide), ⟨(known_would_rather e).mono (by decide), trivial⟩⟩) (trivial) (fun q hq => by cases hq) (trivial)) rfl rfl rfl rfl (fun _ _ _ _ _ _ us hl => match us, hl with | [_, _, _, _], _ => rfl) c_is_broken
  rw [e_is_broken] at h
  exact h
theorem known_broken_by (e : En Z K mg) : Known P w K mg base 3 "broken_by" 2 d_broken_by := by
  have h := known_of (P := P) (w := w) (base := base) (k := 2) (T := T_broken_by) (N := [("market" : Str), ("matching" : Str), ("asker" : Str), ("answerer" : Str)]) (ps := [("market" : Str), ("matching" : Str)]) (s := q_broken_by) (i := 19) (d := D_broken_by) (x := "broken_by") e (tab_ok e (⟨(known_pairs_by e).mono (by decide), ⟨(known_is_broken e).mono (by decide), trivial⟩⟩) (trivial) (fun q hq => by cases hq) (trivial)) rfl rfl rfl rfl (fun _ _ _ _ _ _ us hl => match us, hl with | [_, _], _ => rfl) c_broken_by
  rw [e_broken_by] at h
  exact h
theorem known_steady_by (e : En Z K mg) : Known P w K mg base 4 "steady_by" 1 d_steady_by := by
  have h := known_of (P := P) (w := w) (base := base) (k := 3) (T := T_steady_by) (N := [("market" : Str), ("row" : Str)]) (ps := [("market" : Str)]) (s := q_steady_by) (i := 20) (d := D_steady_by) (x := "steady_by") e (tab_ok e (⟨(known_matchings_by e).mono (by decide), ⟨(known_broken_by e).mono (by decide), trivial⟩⟩) (trivial) (fun q hq => by cases hq) (trivial)) rfl rfl rfl rfl (fun _ _ _ _ _ _ us hl => match us, hl with | [_], _ => rfl) c_steady_by
  rw [e_steady_by] at h
  exact h
theorem known_all_steady (e : En Z K mg) : Known P w K mg base 5 "all_steady" 1 d_all_steady := by
  have h := known_of (P := P) (w := w) (base := base) (k := 4) (T := T_all_steady) (N := [("market" : Str)]) (ps := [("market" : Str)]) (s := q_all_steady) (i := 21) (d := D_all_steady) (x := "all_steady") e (tab_ok e (⟨(known_steady_by e).mono (by decide), trivial⟩) (trivial) (fun q hq => by cases hq) (trivial)) rfl rfl rfl rfl (fun _ _ _ _ _ _ us hl => match us, hl with | [_], _ => rfl) c_all_steady
  rw [e_all_steady] at h
  exact h
theorem known_refused_by (e : En Z K mg) : Known P w K mg base 2 "refused_by" 4 d_refused_by := by
  have h := known_of (P := P) (w := w) (base := base) (k := 1) (T := T_refused_by) (N := [("market" : Str), ("answerer" : Str), ("kept" : Str), ("asker" : Str)]) (ps := [("market" : Str), ("answerer" : Str), ("kept" : Str), ("asker" : Str)]) (s := q_refused_by) (i := 22) (d := D_refused_by) (x := "refused_by") e (tab_ok e (⟨(known_would_rather e).mono (by decide), trivial⟩) (trivial) (fun q hq => by cases hq) (trivial)) rfl rfl rfl rfl (fun _ _ _ _ _ _ us hl => match us, hl with | [_, _, _, _], _ => rfl) c_refused_by
  rw [e_refused_by] at h
  exact h
theorem known_asking_by (e : En Z K mg) : Known P w K mg base 3 "asking_by" 1 d_asking_by := by
  have h := known_of (P := P) (w := w) (base := base) (k := 2) (T := T_asking_by) (N := [("market" : Str), ("asked" : Str), ("kept" : Str), ("found" : Str), ("alone" : Str), ("open_ones" : Str), ("asker" : Str), ("answerer" : Str), ("refused" : Str), ("ends" : Str)]) (ps := [("market" : Str)]) (s := q_asking_by) (i := 23) (d := D_asking_by) (x := "asking_by") e (tab_ok e (⟨(known_refused_by e).mono (by decide), trivial⟩) (trivial) (fun q hq => by cases hq) (trivial)) rfl rfl rfl rfl (fun _ _ _ _ _ _ us hl => match us, hl with | [_], _ => rfl) c_asking_by
  rw [e_asking_by] at h
  exact h
theorem known_asked_by (e : En Z K mg) : Known P w K mg base 4 "asked_by" 1 d_asked_by := by
  have h := known_of (P := P) (w := w) (base := base) (k := 3) (T := T_asked_by) (N := [("market" : Str)]) (ps := [("market" : Str)]) (s := q_asked_by) (i := 24) (d := D_asked_by) (x := "asked_by") e (tab_ok e (⟨(known_asking_by e).mono (by decide), trivial⟩) (trivial) (fun q hq => by cases hq) (trivial)) rfl rfl rfl rfl (fun _ _ _ _ _ _ us hl => match us, hl with | [_], _ => rfl) c_asked_by
  rw [e_asked_by] at h
  exact h
theorem known_asked_best (e : En Z K mg) : Known P w K mg base 5 "asked_best" 1 d_asked_best := by
  have h := known_of (P := P) (w := w) (base := base) (k := 4) (T := T_asked_best) (N := [("market" : Str)]) (ps := [("market" : Str)]) (s := q_asked_best) (i := 25) (d := D_asked_best) (x := "asked_best") e (tab_ok e (⟨(known_asked_by e).mono (by decide), trivial⟩) (trivial) (fun q hq => by cases hq) (trivial)) rfl rfl rfl rfl (fun _ _ _ _ _ _ us hl => match us, hl with | [_], _ => rfl) c_asked_best
  rw [e_asked_best] at h
  exact h
theorem known_turned_sides (e : En Z K mg) : Known P w K mg base 7 "turned_sides" 1 d_turned_sides := by
  have h := known_of (P := P) (w := w) (base := base) (k := 6) (T := T_turned_sides) (N := [("market" : Str)]) (ps := [("market" : Str)]) (s := q_turned_sides) (i := 26) (d := D_turned_sides) (x := "turned_sides") e (tab_ok e (trivial) (⟨⟨5, by decide, known_Market___init__ e⟩, trivial⟩) (fun q hq => by cases hq) (trivial)) rfl rfl rfl rfl (fun _ _ _ _ _ _ us hl => match us, hl with | [_], _ => rfl) c_turned_sides
  rw [e_turned_sides] at h
  exact h
theorem known_answered_by (e : En Z K mg) : Known P w K mg base 8 "answered_by" 1 d_answered_by := by
  have h := known_of (P := P) (w := w) (base := base) (k := 7) (T := T_answered_by) (N := [("market" : Str), ("turned" : Str)]) (ps := [("market" : Str)]) (s := q_answered_by) (i := 27) (d := D_answered_by) (x := "answered_by") e (tab_ok e (⟨(known_turned_sides e).mono (by decide), ⟨(known_asked_by e).mono (by decide), ⟨(known_turned_by e).mono (by decide), trivial⟩⟩⟩) (trivial) (fun q hq => by cases hq) (trivial)) rfl rfl rfl rfl (fun _ _ _ _ _ _ us hl => match us, hl with | [_], _ => rfl) c_answered_by
  rw [e_answered_by] at h
  exact h
theorem known_answered_best (e : En Z K mg) : Known P w K mg base 9 "answered_best" 1 d_answered_best := by
  have h := known_of (P := P) (w := w) (base := base) (k := 8) (T := T_answered_best) (N := [("market" : Str)]) (ps := [("market" : Str)]) (s := q_answered_best) (i := 28) (d := D_answered_best) (x := "answered_best") e (tab_ok e (⟨(known_answered_by e).mono (by decide), trivial⟩) (trivial) (fun q hq => by cases hq) (trivial)) rfl rfl rfl rfl (fun _ _ _ _ _ _ us hl => match us, hl with | [_], _ => rfl) c_answered_best
  rw [e_answered_best] at h
  exact h
theorem known_is_matching (e : En Z K mg) : Known P w K mg base 3 "is_matching" 2 d_is_matching := by
  have h := known_of (P := P) (w := w) (base := base) (k := 2) (T := T_is_matching) (N := [("market" : Str), ("value" : Str), ("told" : Str), ("one" : Str)]) (ps := [("market" : Str), ("value" : Str)]) (s := q_is_matching) (i := 29) (d := D_is_matching) (x := "is_matching") e (tab_ok e (⟨(known_is_index e).mono (by decide), trivial⟩) (trivial) (fun q hq => by cases hq) (trivial)) rfl rfl rfl rfl (fun _ _ _ _ _ _ us hl => match us, hl with | [_, _], _ => rfl) c_is_matching
  rw [e_is_matching] at h
  exact h
theorem known_need_steady (e : En Z K mg) : Known P w K mg base 4 "need_steady" 3 d_need_steady := by
  have h := known_of (P := P) (w := w) (base := base) (k := 3) (T := T_need_steady) (N := [("market" : Str), ("what" : Str), ("matching" : Str), ("known" : Str)]) (ps := [("market" : Str), ("what" : Str), ("matching" : Str)]) (s := q_need_steady) (i := 30) (d := D_need_steady) (x := "need_steady") e (tab_ok e (⟨(known_is_matching e).mono (by decide), ⟨(known_broken_by e).mono (by decide), trivial⟩⟩) (trivial) (fun q hq => by cases hq) (trivial)) rfl rfl rfl rfl (fun _ _ _ _ _ _ us hl => match us, hl with | [_, _, _], _ => rfl) c_need_steady
  rw [e_need_steady] at h
  exact h
theorem known_would_rather_than (e : En Z K mg) : Known P w K mg base 2 "would_rather_than" 3 d_would_rather_than := by
  have h := known_of (P := P) (w := w) (base := base) (k := 1) (T := T_would_rather_than) (N := [("told" : Str), ("one" : Str), ("other" : Str)]) (ps := [("told" : Str), ("one" : Str), ("other" : Str)]) (s := q_would_rather_than) (i := 31) (d := D_would_rather_than) (x := "would_rather_than") e (tab_ok e (⟨(known_would_rather e).mono (by decide), trivial⟩) (trivial) (fun q hq => by cases hq) (trivial)) rfl rfl rfl rfl (fun _ _ _ _ _ _ us hl => match us, hl with | [_, _, _], _ => rfl) c_would_rather_than
  rw [e_would_rather_than] at h
  exact h
theorem known_better_of (e : En Z K mg) : Known P w K mg base 5 "better_of" 3 d_better_of := by
  have h := known_of (P := P) (w := w) (base := base) (k := 4) (T := T_better_of) (N := [("market" : Str), ("matching" : Str), ("other" : Str), ("one" : Str), ("two" : Str), ("found" : Str), ("asker" : Str), ("told" : Str)]) (ps := [("market" : Str), ("matching" : Str), ("other" : Str)]) (s := q_better_of) (i := 32) (d := D_better_of) (x := "better_of") e (tab_ok e (⟨(known_need_steady e).mono (by decide), ⟨(known_would_rather_than e).mono (by decide), trivial⟩⟩) (trivial) (fun q hq => by cases hq) (trivial)) rfl rfl rfl rfl (fun _ _ _ _ _ _ us hl => match us, hl with | [_, _, _], _ => rfl) c_better_of
  rw [e_better_of] at h
  exact h
theorem known_sides_turned (e : En Z K mg) : Known P w K mg base 8 "sides_turned" 1 d_sides_turned := by
  have h := known_of (P := P) (w := w) (base := base) (k := 7) (T := T_sides_turned) (N := [("market" : Str)]) (ps := [("market" : Str)]) (s := q_sides_turned) (i := 33) (d := D_sides_turned) (x := "sides_turned") e (tab_ok e (⟨(known_turned_sides e).mono (by decide), trivial⟩) (trivial) (fun q hq => by cases hq) (trivial)) rfl rfl rfl rfl (fun _ _ _ _ _ _ us hl => match us, hl with | [_], _ => rfl) c_sides_turned
  rw [e_sides_turned] at h
  exact h
theorem known_need_matching (e : En Z K mg) : Known P w K mg base 4 "need_matching" 3 d_need_matching := by
  have h := known_of (P := P) (w := w) (base := base) (k := 3) (T := T_need_matching) (N := [("market" : Str), ("what" : Str), ("matching" : Str), ("known" : Str)]) (ps := [("market" : Str), ("what" : Str), ("matching" : Str)]) (s := q_need_matching) (i := 34) (d := D_need_matching) (x := "need_matching") e (tab_ok e (⟨(known_is_matching e).mono (by decide), trivial⟩) (trivial) (fun q hq => by cases hq) (trivial)) rfl rfl rfl rfl (fun _ _ _ _ _ _ us hl => match us, hl with | [_, _, _], _ => rfl) c_need_matching
  rw [e_need_matching] at h
  exact h
theorem known_matching_turned (e : En Z K mg) : Known P w K mg base 5 "matching_turned" 2 d_matching_turned := by
  have h := known_of (P := P) (w := w) (base := base) (k := 4) (T := T_matching_turned) (N := [("market" : Str), ("matching" : Str)]) (ps := [("market" : Str), ("matching" : Str)]) (s := q_matching_turned) (i := 35) (d := D_matching_turned) (x := "matching_turned") e (tab_ok e (⟨(known_need_matching e).mono (by decide), ⟨(known_turned_by e).mono (by decide), trivial⟩⟩) (trivial) (fun q hq => by cases hq) (trivial)) rfl rfl rfl rfl (fun _ _ _ _ _ _ us hl => match us, hl with | [_, _], _ => rfl) c_matching_turned
  rw [e_matching_turned] at h
  exact h
theorem known__law_worse_of (e : En Z K mg) : Known P w K mg base 9 "_law_worse_of" 3 d__law_worse_of := by
  have h := known_of (P := P) (w := w) (base := base) (k := 8) (T := T__law_worse_of) (N := [("made" : Str), ("one" : Str), ("other" : Str), ("back" : Str)]) (ps := [("made" : Str), ("one" : Str), ("other" : Str)]) (s := q__law_worse_of) (i := 36) (d := D__law_worse_of) (x := "_law_worse_of") e (tab_ok e (⟨(known_sides_turned e).mono (by decide), ⟨(known_matching_turned e).mono (by decide), ⟨(known_better_of e).mono (by decide), trivial⟩⟩⟩) (trivial) (fun q hq => by cases hq) (trivial)) rfl rfl rfl rfl (fun _ _ _ _ _ _ us hl => match us, hl with | [_, _, _], _ => rfl) c__law_worse_of
  rw [e__law_worse_of] at h
  exact h
theorem known__law_is_ (e : En Z K mg) : ∀ i : Nat, Known P w K mg base (1 + i) "_law_is" 2 (d__law_is_ i)
  | 0 => known_none (k := 0) (N := [("told" : Str), ("due" : Str), ("at" : Str)]) (ps := [("told" : Str), ("due" : Str)]) (i := 37) (d := D__law_is) e rfl rfl rfl rfl (fun _ _ _ _ _ _ us hl => match us, hl with | [_, _], _ => rfl) (by kernel_rfl)
  | i + 1 => by
    have h := known_of (P := P) (w := w) (base := base) (k := 1 + i) (T := T__law_is (d__law_is_ i)) (N := [("told" : Str), ("due" : Str), ("at" : Str)]) (ps := [("told" : Str), ("due" : Str)]) (s := q__law_is) (i := 37) (d := D__law_is) (x := "_law_is") e (tab_ok e (⟨known__law_is_ e i, trivial⟩) (trivial) (fun q hq => by cases hq) (trivial)) rfl rfl rfl rfl (fun _ _ _ _ _ _ us hl => match us, hl with | [_, _], _ => rfl) (c__law_is _)
    rw [e__law_is] at h
    exact h
theorem known__law_is (e : En Z K mg) : Known P w K mg base 9 "_law_is" 2 d__law_is := known__law_is_ e 8
theorem known__law_match_key (e : En Z K mg) : Known P w K mg base 1 "_law_match_key" 1 d__law_match_key := by
  have h := known_of (P := P) (w := w) (base := base) (k := 0) (T := T__law_match_key) (N := [("row" : Str), ("one" : Str)]) (ps := [("row" : Str)]) (s := q__law_match_key) (i := 38) (d := D__law_match_key) (x := "_law_match_key") e (tab_ok e (trivial) (trivial) (fun q hq => by cases hq) (trivial)) rfl rfl rfl rfl (fun _ _ _ _ _ _ us hl => match us, hl with | [_], _ => rfl) c__law_match_key
  rw [e__law_match_key] at h
  exact h
theorem known__law_two_right (e : En Z K mg) : Known P w K mg base 10 "_law_two_right" 4 d__law_two_right := by
  have h := known_of (P := P) (w := w) (base := base) (k := 9) (T := T__law_two_right) (N := [("made" : Str), ("one" : Str), ("other" : Str), ("steady" : Str), ("up" : Str), ("down" : Str), ("asker" : Str)]) (ps := [("made" : Str), ("one" : Str), ("other" : Str), ("steady" : Str)]) (s := q__law_two_right) (i := 39) (d := D__law_two_right) (x := "_law_two_right") e (tab_ok e (⟨(known_better_of e).mono (by decide), ⟨(known__law_worse_of e).mono (by decide), ⟨(known__law_is e).mono (by decide), ⟨(known__law_match_key e).mono (by decide), trivial⟩⟩⟩⟩) (trivial) (fun q hq => by cases hq) (trivial)) rfl rfl rfl rfl (fun _ _ _ _ _ _ us hl => match us, hl with | [_, _, _, _], _ => rfl) c__law_two_right
  rw [e__law_two_right] at h
  exact h
theorem known__law_three_right (e : En Z K mg) : Known P w K mg base 10 "_law_three_right" 4 d__law_three_right := by
  have h := known_of (P := P) (w := w) (base := base) (k := 9) (T := T__law_three_right) (N := [("made" : Str), ("one" : Str), ("two" : Str), ("three" : Str), ("up" : Str), ("down" : Str)]) (ps := [("made" : Str), ("one" : Str), ("two" : Str), ("three" : Str)]) (s := q__law_three_right) (i := 40) (d := D__law_three_right) (x := "_law_three_right") e (tab_ok e (⟨(known_better_of e).mono (by decide), ⟨(known__law_worse_of e).mono (by decide), trivial⟩⟩) (trivial) (fun q hq => by cases hq) (trivial)) rfl rfl rfl rfl (fun _ _ _ _ _ _ us hl => match us, hl with | [_, _, _, _], _ => rfl) c__law_three_right
  rw [e__law_three_right] at h
  exact h
theorem known_law (e : En Z K mg) : ∀ fd, FunD K D_law.name D_law.qual D_law.params D_law.body D_law.scope (D_law.dvs K) (D_law.kws K) (He.fAd K D_law.at_) fd → FnOk P w K mg base CX0 11 (He.fAd K D_law.at_) fd ["script"] (spLaw K 12 1 (denS T_law q_law)) := law_known (P := P) (w := w) (base := base) (k := 9) (T := T_law) (N := [("script" : Str), ("pen" : Str), ("lap" : Str), ("way" : Str), ("market" : Str), ("made" : Str), ("steady" : Str), ("best" : Str), ("least" : Str), ("one" : Str), ("other" : Str), ("at" : Str)]) (s := q_law) (i := 41) (d := D_law) e (tab_ok e (⟨(known__law_draw e).mono (by decide), ⟨(known__law_ring_market e).mono (by decide), ⟨(known__law_full_market e).mono (by decide), ⟨(known__law_drawn_market e).mono (by decide), ⟨(known__law_made_market e).mono (by decide), ⟨(known_all_steady e).mono (by decide), ⟨(known_asked_best e).mono (by decide), ⟨(known_answered_best e).mono (by decide), ⟨(known_better_of e).mono (by decide), ⟨(known__law_worse_of e).mono (by decide), ⟨(known__law_is e).mono (by decide), ⟨(known__law_pick e).mono (by decide), ⟨(known__law_two_right e).mono (by decide), ⟨(known__law_three_right e).mono (by decide), trivial⟩⟩⟩⟩⟩⟩⟩⟩⟩⟩⟩⟩⟩⟩) (trivial) (fun q hq => by cases hq) (trivial)) rfl rfl rfl (known__law_pen e) c_law0 c_law
end
def names0 : List Str := [("RuleError" : Str), ("BadRow" : Str), ("is_whole" : Str), ("is_index" : Str), ("MOST_SIDE" : Str), ("Market" : Str), ("is_list" : Str), ("need_lists" : Str), ("turned_sides" : Str), ("sides_turned" : Str), ("is_matching" : Str), ("need_matching" : Str), ("turned_by" : Str), ("matching_turned" : Str), ("would_rather" : Str), ("is_broken" : Str), ("pairs_by" : Str), ("broken_by" : Str), ("refused_by" : Str), ("asking_by" : Str), ("asked_by" : Str), ("asked_best" : Str), ("answered_by" : Str), ("answered_best" : Str), ("matchings_by" : Str), ("steady_by" : Str), ("all_steady" : Str), ("need_steady" : Str), ("better_of" : Str), ("would_rather_than" : Str)]
def names1 : List Str := [("_law_pen" : Str), ("_law_draw" : Str), ("_law_pick" : Str), ("_law_shuffled" : Str), ("_law_is" : Str), ("_law_drawn_list" : Str), ("_law_drawn_market" : Str), ("_law_match_key" : Str), ("_law_made_market" : Str), ("_law_ring_market" : Str), ("_law_full_market" : Str), ("_law_worse_of" : Str), ("_law_two_right" : Str), ("_law_three_right" : Str)]
def names : List Str := names0 ++ names1
abbrev R : PySem.W.OpenRow := PySem.W.OpenLaw.row PySem.Challenge.rw_honestrules_k75_steady_matchings_are_a_l
abbrev hk : PySem.W.Hook := hookZ 4 Z
def ob (s : PySem.W.SharedT) : AlZ := obsZ 4 Z (HandSHeadRun.getT s)
theorem ob_eq (s : PySem.W.SharedT) : ob s = hk.obs s.abs := obsZ_eq (HandSHeadRun.getT_eq s)
theorem run (w : World) : HandSHeadRun.RunEq R (PySem.W.view R.prog [48]) hk ob 20000 names w := by
  intro os
  kernel_rfl
abbrev lawMeans (ns : List Int) : Prop := ∃ p, s_law (lawEnv 12 1) (pen0 ns) = some (.rt (.bl true), p)
theorem facts {P : Program} {w : World} {K : PySem.W.Frag} {h : Heap} {mg : Str → Option Value} {f : Addr} (X : K.In h) (G : h.Ns mainGlobals mg) (hfa : mg ("law" : Str) = some (.ref f)) (c : Z.says K) :
    ∃ fd : FuncData, (∀ (s : Shared) (v : Value), BindsTo s fd ⟨[v], []⟩ [("script", v)]) ∧ ∀ base : Heap, K.In base → base.Ns mainGlobals mg → FnOk P w K mg base CX0 11 f fd ["script"] (spLaw K 12 1 s_law) := by
  have e := en_of X G c
  obtain ⟨fd, F⟩ := e.defs 41 D_law rfl
  have g := e.glo 41 D_law rfl rfl
  have q := hfa.symm.trans g
  cases q
  have b := FunD.bindsA (ps := ["script"]) F fun _ _ _ _ _ _ us hl => match us, hl with | [_], _ => rfl
  refine ⟨fd, fun s v => b s [v] rfl, fun base _ _ => ?_⟩
  have z := known_law (P := P) (w := w) (base := base) e fd F
  rw [e_law] at z
  exact z
end LawN
section
open PySem PySem.W PySem.Calls PyProof.Rows
theorem LawN.finish (math : ∀ ns : List Int, ns.length ≤ 63 → LawN.lawMeans ns) : PySem.Challenge.rw_honestrules_k75_steady_matchings_are_a_l.Holds := by
  w_on; o_law
  refine HandSHeadRun.head_any (r := OpenLaw.row PySem.Challenge.rw_honestrules_k75_steady_matchings_are_a_l) (q := view (OpenLaw.row PySem.Challenge.rw_honestrules_k75_steady_matchings_are_a_l).prog [48]) (H := LawN.hk) (ob := LawN.ob) (M := 20000) (loose := LawN.names) (d := HandSHeadRun.topDef (OpenLaw.row PySem.Challenge.rw_honestrules_k75_steady_matchings_are_a_l).prog 48) (kwd := []) LawN.ob_eq
    (by kernel_rfl) (fun s => by kernel_rfl) LawN.run (by kernel_rfl) (by kernel_rfl) (by kernel_rfl) (by rfl) (by first | assumption | decide +kernel) (by decide +kernel) ⟨rfl, rfl, rfl, rfl, rfl, by decide +kernel⟩ ?hw ?hc
  case hw => w_witness2
  case hc =>
    refine L2.walk_ofE (l := PySem.Challenge.rw_honestrules_k75_steady_matchings_are_a_l) (n := 63) (k := 11) (x := "script") (CX := L2.CX0) rfl (by decide) (by kernel_rfl) ⟨rfl, by decide, by decide⟩ ?F (fun _ _ _ _ z => z)
    intro w mg fa h Y G hmg0
    obtain ⟨K, KX, c⟩ := Y
    have hmg : mg ("law" : PySem.Str) = some (.ref fa) := by
      have e : (HandSHeadRun.topDef (OpenLaw.row PySem.Challenge.rw_honestrules_k75_steady_matchings_are_a_l).prog 48).name = ("law" : PySem.Str) := by kernel_rfl
      rw [← e]
      exact hmg0
    obtain ⟨fd, hb, hF⟩ := LawN.facts (P := (PySem.Challenge.rw_honestrules_k75_steady_matchings_are_a_l).prog) (w := w) KX G hmg c
    exact ⟨K, fd, _, KX, hb, fun H a ns hl _ hS => ⟨a, ns, rfl, hS, Nat.le_trans hl (by decide), math ns hl, fun _ => rfl⟩, hF⟩
end
set_option Elab.async false
set_option linter.all false
set_option maxRecDepth 100000
set_option maxHeartbeats 4000000
/-! markets of two sides, in plain Lean: asking, steady matchings, what asking leads to. -/
namespace Mkt
structure Mk where
  asks : List (List Nat)
  answers : List (List Nat)
def Mk.ask (m : Mk) (a : Nat) : List Nat := m.asks.getD a []
def Mk.ans (m : Mk) (b : Nat) : List Nat := m.answers.getD b []
def on (l : List (Option Nat)) (i : Nat) : Option Nat := l.getD i none
/-- whether by a list x is on it, and y is nobody, later on it, or not on it -/
def rather (L : List Nat) (x : Nat) (y : Option Nat) : Prop := x ∈ L ∧ ∀ z, y = some z → z ∉ L ∨ L.idxOf x < L.idxOf z
instance (L : List Nat) (x : Nat) (y : Option Nat) : Decidable (rather L x y) :=
  match y with
  | none => if h : x ∈ L then isTrue ⟨h, fun z e => nomatch e⟩ else isFalse fun k => h k.1
  | some z => if h : x ∈ L ∧ (z ∉ L ∨ L.idxOf x < L.idxOf z) then isTrue ⟨h.1, fun w e => by cases e; exact h.2⟩ else isFalse fun k => h ⟨k.1, k.2 z rfl⟩
structure Mk.Ok (m : Mk) : Prop where
  na : ∀ L ∈ m.asks, L.Nodup ∧ ∀ b ∈ L, b < m.answers.length
  nb : ∀ L ∈ m.answers, L.Nodup ∧ ∀ a ∈ L, a < m.asks.length
theorem getD_mem {α : Type} {l : List α} {i : Nat} {d : α} (h : i < l.length) : l.getD i d ∈ l := by
  rw [List.getD_eq_getElem?_getD, List.getElem?_eq_getElem h]
  exact List.getElem_mem h
theorem getD_out {α : Type} {l : List α} {i : Nat} {d : α} (h : l.length ≤ i) : l.getD i d = d := by
  rw [List.getD_eq_getElem?_getD, List.getElem?_eq_none h]
  rfl
theorem Mk.Ok.ask_nd {m : Mk} (h : m.Ok) (a : Nat) : (m.ask a).Nodup := by
  by_cases ha : a < m.asks.length
  · exact (h.na _ (getD_mem ha)).1
  · unfold Mk.ask
    rw [getD_out (by omega)]
    exact List.nodup_nil
theorem Mk.Ok.ask_lt {m : Mk} (h : m.Ok) {a b : Nat} (hb : b ∈ m.ask a) : b < m.answers.length := by
  by_cases ha : a < m.asks.length
  · exact (h.na _ (getD_mem ha)).2 b hb
  · unfold Mk.ask at hb
    rw [getD_out (by omega)] at hb
    cases hb
theorem Mk.Ok.ans_lt {m : Mk} (h : m.Ok) {a b : Nat} (hb : a ∈ m.ans b) : a < m.asks.length := by
  by_cases ha : b < m.answers.length
  · exact (h.nb _ (getD_mem ha)).2 a hb
  · unfold Mk.ans at hb
    rw [getD_out (by omega)] at hb
    cases hb
/-- a steady matching -/
structure Steady (m : Mk) (mu : List (Option Nat)) : Prop where
  len : mu.length = m.asks.length
  inj : ∀ a a' b, on mu a = some b → on mu a' = some b → a = a'
  ira : ∀ a b, on mu a = some b → b ∈ m.ask a
  irb : ∀ a b, on mu a = some b → a ∈ m.ans b
  nob : ∀ a b, rather (m.ask a) b (on mu a) → a ∈ m.ans b → ∃ a', on mu a' = some b ∧ ¬rather (m.ans b) a (some a')
/-- askers' lists made longer at their ends, answerers' lists that agree with what was said -/
structure Ext (m n : Mk) : Prop where
  pre : ∀ a, a < m.asks.length → m.ask a <+: n.ask a
  no : ∀ b a, a < m.asks.length → a ∉ m.ans b → a ∉ n.ans b
  ord : ∀ b x y, x < m.asks.length → y < m.asks.length → rather (m.ans b) x (some y) → y ∈ n.ans b → rather (n.ans b) x (some y)
structure Inv (m : Mk) (asked : List Nat) (kept : List (Option Nat)) : Prop where
  la : asked.length = m.asks.length
  lk : kept.length = m.answers.length
  le : ∀ a, asked.getD a 0 ≤ (m.ask a).length
  kp : ∀ b a, on kept b = some a → a < m.asks.length ∧ ∃ j, j + 1 = asked.getD a 0 ∧ (m.ask a)[j]? = some b ∧ a ∈ m.ans b
  rf : ∀ a j b, j < asked.getD a 0 → (m.ask a)[j]? = some b → on kept b ≠ some a → a ∉ m.ans b ∨ ∃ a', on kept b = some a' ∧ rather (m.ans b) a' (some a)
  op : ∀ n mu, n.Ok → Ext m n → Steady n mu → ∀ a j b, j < asked.getD a 0 → (m.ask a)[j]? = some b → on kept b ≠ some a → on mu a ≠ some b
theorem rather_trans {L : List Nat} {x y z : Nat} (h : rather L x (some y)) (k : rather L y (some z)) : rather L x (some z) := by
  refine ⟨h.1, fun w e => ?_⟩
  cases e
  rcases k.2 z rfl with k2 | k2
  · exact .inl k2
  · rcases h.2 y rfl with h2 | h2
    · exact absurd k.1 h2
    · exact .inr (by omega)
theorem rather_not {L : List Nat} {x y : Nat} (hx : x ∈ L) (hxy : x ≠ y) (h : ¬rather L x (some y)) : rather L y (some x) := by
  have h2 : y ∈ L ∧ ¬L.idxOf x < L.idxOf y := by
    constructor
    · exact Classical.byContradiction fun z => h ⟨hx, fun w e => by cases e; exact .inl z⟩
    · exact fun z => h ⟨hx, fun w e => by cases e; exact .inr z⟩
  refine ⟨h2.1, fun w e => ?_⟩
  cases e
  have : L.idxOf y ≠ L.idxOf x := fun e => hxy (by
    have h3 := List.getElem_idxOf (List.idxOf_lt_length_of_mem hx)
    have h4 := List.getElem_idxOf (List.idxOf_lt_length_of_mem h2.1)
    rw [← h3, ← h4]
    congr 1
    exact e.symm)
  exact .inr (by omega)
theorem idx_at {L : List Nat} (hd : L.Nodup) {j b : Nat} (h : L[j]? = some b) : L.idxOf b = j := by
  obtain ⟨hj, e⟩ := List.getElem?_eq_some_iff.mp h
  rw [← e]
  exact List.Nodup.idxOf_getElem hd j hj
/-- better than b by a longer list: behind the asked ones there is nothing of M that is better -/
theorem pre_rather {L N : List Nat} (p : L <+: N) (hN : N.Nodup) {j b : Nat} (hj : L[j]? = some b) {y : Option Nat} (h : ∀ i c, i ≤ j → L[i]? = some c → y ≠ some c) : rather N b y := by
  obtain ⟨t, rfl⟩ := p
  have hb : (L ++ t)[j]? = some b := by
    have := (List.getElem?_eq_some_iff.mp hj).1
    rw [List.getElem?_append_left this]
    exact hj
  refine ⟨List.mem_of_getElem? hb, fun z e => ?_⟩
  by_cases hz : z ∈ L ++ t
  · refine .inr ?_
    rw [idx_at hN hb]
    refine Classical.byContradiction fun k => ?_
    have hlt : (L ++ t).idxOf z < (L ++ t).length := List.idxOf_lt_length_of_mem hz
    have e2 := List.getElem_idxOf hlt
    have hjl := (List.getElem?_eq_some_iff.mp hj).1
    have hi : (L ++ t).idxOf z < L.length := by omega
    refine h ((L ++ t).idxOf z) z (by omega) ?_ e
    rw [← List.getElem?_append_left (l₂ := t) hi, List.getElem?_eq_getElem hlt, e2]
  · exact .inl hz
theorem on_set {l : List (Option Nat)} {i j : Nat} {x : Option Nat} (h : i < l.length) : on (l.set i x) j = if i = j then x else on l j := by
  unfold on
  rw [List.getD_eq_getElem?_getD, List.getElem?_set, List.getD_eq_getElem?_getD]
  by_cases e : i = j
  · subst e
    simp [h]
  · simp [e]
theorem nat_set {l : List Nat} {i j x : Nat} (h : i < l.length) : (l.set i x).getD j 0 = if i = j then x else l.getD j 0 := by
  rw [List.getD_eq_getElem?_getD, List.getElem?_set, List.getD_eq_getElem?_getD]
  by_cases e : i = j
  · subst e
    simp [h]
  · simp [e]
/-- one turn of asking -/
theorem step {m : Mk} (ok : m.Ok) {asked : List Nat} {kept : List (Option Nat)} (I : Inv m asked kept) {a b : Nat} (alone : ∀ c, on kept c ≠ some a) (hb : (m.ask a)[asked.getD a 0]? = some b) :
    Inv m (asked.set a (asked.getD a 0 + 1)) (if rather (m.ans b) a (on kept b) then kept.set b (some a) else kept) := by
  have haN : a < m.asks.length := Classical.byContradiction fun h => by
    unfold Mk.ask at hb
    rw [getD_out (by omega)] at hb
    simp at hb
  have hal : a < asked.length := by rw [I.la]; exact haN
  have hbm : b ∈ m.ask a := List.mem_of_getElem? hb
  have hbl : b < kept.length := by rw [I.lk]; exact ok.ask_lt hbm
  have hj := (List.getElem?_eq_some_iff.mp hb).1
  have A : ∀ x, (asked.set a (asked.getD a 0 + 1)).getD x 0 = if a = x then asked.getD a 0 + 1 else asked.getD x 0 := fun x => nat_set hal
  have hle : ∀ x, (asked.set a (asked.getD a 0 + 1)).getD x 0 ≤ (m.ask x).length := fun x => by
    rw [A]
    split
    · rename_i e
      subst e
      omega
    · exact I.le x
  -- what an asker has been told before this turn
  have notmu : ∀ n mu, n.Ok → Ext m n → Steady n mu → ∀ i c, i < asked.getD a 0 → (m.ask a)[i]? = some c → on mu a ≠ some c := fun n mu on E S i c hi hc => I.op n mu on E S a i c hi hc (alone c)
  by_cases hr : rather (m.ans b) a (on kept b)
  · rw [if_pos hr]
    have K : ∀ x, on (kept.set b (some a)) x = if b = x then some a else on kept x := fun x => on_set hbl
    refine ⟨by rw [List.length_set]; exact I.la, by rw [List.length_set]; exact I.lk, hle, fun c x h => ?_, fun x j c hjx hc hk => ?_, fun n mu okn E S x j c hjx hc hk => ?_⟩
    · rw [K] at h
      by_cases e : b = c
      · subst e
        rw [if_pos rfl] at h
        cases h
        exact ⟨haN, asked.getD a 0, by rw [A, if_pos rfl], hb, hr.1⟩
      · rw [if_neg e] at h
        have hx : a ≠ x := fun z => alone c (by rw [z]; exact h)
        obtain ⟨h1, j, h2, h3, h4⟩ := I.kp c x h
        exact ⟨h1, j, by rw [A, if_neg hx]; exact h2, h3, h4⟩
    · rw [K] at hk
      rw [A] at hjx
      by_cases ex : a = x
      · subst ex
        rw [if_pos rfl] at hjx
        by_cases ej : j = asked.getD a 0
        · subst ej
          rw [hb] at hc
          cases hc
          rw [if_pos rfl] at hk
          exact absurd rfl hk
        · have hc2 : b ≠ c := fun z => by
            subst z
            have := idx_at (ok.ask_nd a) hb
            have := idx_at (ok.ask_nd a) hc
            omega
          rw [if_neg hc2] at hk
          rcases I.rf a j c (by omega) hc hk with h | ⟨a', h1, h2⟩
          · exact .inl h
          · exact .inr ⟨a', by rw [K, if_neg hc2]; exact h1, h2⟩
      · rw [if_neg ex] at hjx
        by_cases e : b = c
        · subst e
          -- x was refused, or is let go now
          by_cases hx : on kept b = some x
          · exact .inr ⟨a, by rw [K, if_pos rfl], by rw [hx] at hr; exact hr⟩
          · rcases I.rf x j b hjx hc hx with h | ⟨a', h1, h2⟩
            · exact .inl h
            · refine .inr ⟨a, by rw [K, if_pos rfl], ?_⟩
              rw [h1] at hr
              exact rather_trans hr h2
        · rw [if_neg e] at hk
          rcases I.rf x j c hjx hc hk with h | ⟨a', h1, h2⟩
          · exact .inl h
          · exact .inr ⟨a', by rw [K, if_neg e]; exact h1, h2⟩
    · rw [K] at hk
      rw [A] at hjx
      by_cases ex : a = x
      · subst ex
        rw [if_pos rfl] at hjx
        by_cases ej : j = asked.getD a 0
        · subst ej
          rw [hb] at hc
          cases hc
          rw [if_pos rfl] at hk
          exact absurd rfl hk
        · exact notmu n mu okn E S j c (by omega) hc
      · rw [if_neg ex] at hjx
        by_cases e : b = c
        · subst e
          by_cases hx : on kept b = some x
          · -- x is let go: were it b's, a and b would rather have each other
            intro hmu
            obtain ⟨hxN, _⟩ := I.kp b x hx
            rw [hx] at hr
            have r1 := E.ord b a x haN hxN hr (S.irb x b hmu)
            have r2 : rather (n.ask a) b (on mu a) := by
              refine pre_rather (E.pre a haN) ?_ hb fun i c hi hc' => ?_
              · exact okn.ask_nd a
              · by_cases ei : i = asked.getD a 0
                · subst ei
                  rw [hb] at hc'
                  cases hc'
                  exact fun z => ex (S.inj a x b z hmu)
                · exact notmu n mu okn E S i c (by omega) hc'
            obtain ⟨a', h1, h2⟩ := S.nob a b r2 r1.1
            have : a' = x := S.inj a' x b h1 hmu
            subst this
            exact h2 r1
          · exact I.op n mu okn E S x j b hjx hc hx
        · rw [if_neg e] at hk
          exact I.op n mu okn E S x j c hjx hc hk
  · rw [if_neg hr]
    -- why a is refused
    have why : a ∉ m.ans b ∨ ∃ a', on kept b = some a' ∧ a ≠ a' ∧ rather (m.ans b) a' (some a) := by
      by_cases h : a ∈ m.ans b
      · refine .inr ?_
        cases e : on kept b with
        | none =>
          rw [e] at hr
          exact absurd ⟨h, fun z w => nomatch w⟩ hr
        | some a' =>
          have ne : a ≠ a' := fun z => alone b (by rw [e, z])
          rw [e] at hr
          exact ⟨a', rfl, ne, rather_not h ne hr⟩
      · exact .inl h
    refine ⟨by rw [List.length_set]; exact I.la, I.lk, hle, fun c x h => ?_, fun x j c hjx hc hk => ?_, fun n mu okn E S x j c hjx hc hk => ?_⟩
    · have hx : a ≠ x := fun z => alone c (by rw [z]; exact h)
      obtain ⟨h1, j, h2, h3, h4⟩ := I.kp c x h
      exact ⟨h1, j, by rw [A, if_neg hx]; exact h2, h3, h4⟩
    · rw [A] at hjx
      by_cases ex : a = x
      · subst ex
        rw [if_pos rfl] at hjx
        by_cases ej : j = asked.getD a 0
        · subst ej
          rw [hb] at hc
          cases hc
          exact why.imp id fun ⟨a', h1, _, h2⟩ => ⟨a', h1, h2⟩
        · exact I.rf a j c (by omega) hc hk
      · rw [if_neg ex] at hjx
        exact I.rf x j c hjx hc hk
    · rw [A] at hjx
      by_cases ex : a = x
      · subst ex
        rw [if_pos rfl] at hjx
        by_cases ej : j = asked.getD a 0
        · subst ej
          rw [hb] at hc
          cases hc
          intro hmu
          have hin := S.irb a b hmu
          rcases why with h | ⟨a', h1, ne, h2⟩
          · exact E.no b a haN h hin
          · obtain ⟨ha', j', g1, g2, g3⟩ := I.kp b a' h1
            have r1 := E.ord b a' a ha' haN h2 hin
            have r2 : rather (n.ask a') b (on mu a') := by
              refine pre_rather (E.pre a' ha') (okn.ask_nd a') g2 fun i c hi hc' => ?_
              by_cases ei : i = j'
              · subst ei
                rw [g2] at hc'
                cases hc'
                exact fun z => ne (S.inj a a' b hmu z)
              · refine I.op n mu okn E S a' i c (by omega) hc' fun z => ?_
                obtain ⟨_, j2, k1, k2, _⟩ := I.kp c a' z
                have : j2 = j' := by omega
                subst this
                rw [g2] at k2
                cases k2
                have := idx_at (ok.ask_nd a') g2
                have := idx_at (ok.ask_nd a') hc'
                omega
            obtain ⟨a2, h3, h4⟩ := S.nob a' b r2 r1.1
            have : a2 = a := S.inj a2 a b h3 hmu
            subst this
            exact h4 r1
        · exact I.op n mu okn E S a j c (by omega) hc hk
      · rw [if_neg ex] at hjx
        exact I.op n mu okn E S x j c hjx hc hk
theorem start (m : Mk) : Inv m (List.replicate m.asks.length 0) (List.replicate m.answers.length none) := by
  have z : ∀ (n i : Nat), (List.replicate n 0).getD i 0 = 0 := fun n i => by
    by_cases h : i < n
    · rw [List.getD_eq_getElem?_getD, List.getElem?_replicate, if_pos h]
      rfl
    · exact getD_out (by simp; omega)
  have y : ∀ (n i : Nat), on (List.replicate n none) i = none := fun n i => by
    by_cases h : i < n
    · unfold on
      rw [List.getD_eq_getElem?_getD, List.getElem?_replicate, if_pos h]
      rfl
    · exact getD_out (by simp; omega)
  refine ⟨by simp, by simp, fun a => by rw [z]; exact Nat.zero_le _, fun b a h => ?_, fun a j b h => ?_, fun n mu _ _ _ a j b h => ?_⟩
  · rw [y] at h
    cases h
  · rw [z] at h
    omega
  · rw [z] at h
    omega
/-- nobody has anybody left to ask -/
def Done (m : Mk) (asked : List Nat) (kept : List (Option Nat)) : Prop := ∀ a, a < m.asks.length → (∀ c, on kept c ≠ some a) → asked.getD a 0 = (m.ask a).length
/-- whom each asker has at the end -/
def ends (n : Nat) (kept : List (Option Nat)) : List (Option Nat) := (List.range n).map fun a => if some a ∈ kept then some (kept.idxOf (some a)) else none
theorem on_some {kept : List (Option Nat)} {c a : Nat} (h : on kept c = some a) : c < kept.length ∧ some a ∈ kept := by
  have hc : c < kept.length := Classical.byContradiction fun k => by
    unfold on at h
    rw [getD_out (by omega)] at h
    cases h
  exact ⟨hc, h ▸ getD_mem hc⟩
theorem on_idx {kept : List (Option Nat)} {a : Nat} (h : some a ∈ kept) : on kept (kept.idxOf (some a)) = some a := by
  have := List.idxOf_lt_length_of_mem h
  unfold on
  rw [List.getD_eq_getElem?_getD, List.getElem?_eq_getElem this, List.getElem_idxOf]
  rfl
theorem Inv.one {m : Mk} (ok : m.Ok) {asked : List Nat} {kept : List (Option Nat)} (I : Inv m asked kept) {b c a : Nat} (h : on kept b = some a) (k : on kept c = some a) : b = c := by
  obtain ⟨_, j, h1, h2, _⟩ := I.kp b a h
  obtain ⟨_, j', k1, k2, _⟩ := I.kp c a k
  have : j = j' := by omega
  subst this
  rw [h2] at k2
  exact Option.some.inj k2
theorem ends_on {m : Mk} (ok : m.Ok) {asked : List Nat} {kept : List (Option Nat)} (I : Inv m asked kept) {a b : Nat} : on (ends m.asks.length kept) a = some b ↔ on kept b = some a := by
  by_cases ha : a < m.asks.length
  · have e : on (ends m.asks.length kept) a = if some a ∈ kept then some (kept.idxOf (some a)) else none := by
      unfold on ends
      rw [List.getD_eq_getElem?_getD, List.getElem?_map, List.getElem?_range ha]
      rfl
    rw [e]
    constructor
    · intro h
      split at h
      · rename_i hm
        cases h
        exact on_idx hm
      · cases h
    · intro h
      have hm := (on_some h).2
      rw [if_pos hm]
      exact congrArg some (I.one ok (on_idx hm) h)
  · constructor
    · intro h
      have : on (ends m.asks.length kept) a = none := getD_out (by simp [ends]; omega)
      rw [this] at h
      cases h
    · intro h
      exact absurd (I.kp b a h).1 ha
/-- asking ends with a steady matching -/
theorem ends_steady {m : Mk} (ok : m.Ok) {asked : List Nat} {kept : List (Option Nat)} (I : Inv m asked kept) (D : Done m asked kept) : Steady m (ends m.asks.length kept) := by
  refine ⟨by simp [ends], fun a a' b h k => ?_, fun a b h => ?_, fun a b h => ?_, fun a b r hab => ?_⟩
  · rw [ends_on ok I] at h k
    rw [h] at k
    exact Option.some.inj k
  · obtain ⟨_, j, _, h2, _⟩ := I.kp b a ((ends_on ok I).mp h)
    exact List.mem_of_getElem? h2
  · obtain ⟨_, j, _, _, h3⟩ := I.kp b a ((ends_on ok I).mp h)
    exact h3
  · have haN := ok.ans_lt hab
    have hj : (m.ask a)[(m.ask a).idxOf b]? = some b := by
      have := List.idxOf_lt_length_of_mem r.1
      rw [List.getElem?_eq_getElem this, List.getElem_idxOf]
    have hk : on kept b ≠ some a := fun z => by
      have := (ends_on ok I).mpr z
      rcases r.2 b this with h | h
      · exact h r.1
      · omega
    have hlt : (m.ask a).idxOf b < asked.getD a 0 := by
      by_cases hal : ∀ c, on kept c ≠ some a
      · rw [D a haN hal]
        exact List.idxOf_lt_length_of_mem r.1
      · obtain ⟨c, hc⟩ := Classical.not_forall.mp hal
        have hc := Classical.not_not.mp hc
        obtain ⟨_, j, h1, h2, _⟩ := I.kp c a hc
        have := idx_at (ok.ask_nd a) h2
        rcases r.2 c ((ends_on ok I).mpr hc) with h | h
        · exact absurd (List.mem_of_getElem? h2) h
        · omega
    rcases I.rf a _ b hlt hj hk with h | ⟨a', h1, h2⟩
    · exact absurd hab h
    · refine ⟨a', (ends_on ok I).mpr h1, fun z => ?_⟩
      rcases z.2 a' rfl with w | w
      · exact w h2.1
      · rcases h2.2 a rfl with v | v
        · exact v hab
        · omega
/-- nobody has a better one that it might have by a steady matching of a market made longer -/
theorem ends_best {m n : Mk} (ok : m.Ok) (okn : n.Ok) {asked : List Nat} {kept : List (Option Nat)} (I : Inv m asked kept) (D : Done m asked kept) (E : Ext m n) {mu : List (Option Nat)} (S : Steady n mu) {a b : Nat} (h : on mu a = some b) (hb : b ∈ m.ask a) :
    ∃ c, on (ends m.asks.length kept) a = some c ∧ (m.ask a).idxOf c ≤ (m.ask a).idxOf b := by
  have haN : a < m.asks.length := Classical.byContradiction fun h => by
    unfold Mk.ask at hb
    rw [getD_out (by omega)] at hb
    cases hb
  have hj : (m.ask a)[(m.ask a).idxOf b]? = some b := by
    have := List.idxOf_lt_length_of_mem hb
    rw [List.getElem?_eq_getElem this, List.getElem_idxOf]
  by_cases hk : on kept b = some a
  · exact ⟨b, (ends_on ok I).mpr hk, Nat.le_refl _⟩
  · have hge : asked.getD a 0 ≤ (m.ask a).idxOf b := Classical.byContradiction fun z => I.op n mu okn E S a _ b (by omega) hj hk h
    have hlen := List.idxOf_lt_length_of_mem hb
    have : ¬∀ c, on kept c ≠ some a := fun hal => by
      have := D a haN hal
      omega
    obtain ⟨c, hc⟩ := Classical.not_forall.mp this
    have hc := Classical.not_not.mp hc
    obtain ⟨_, j, h1, h2, _⟩ := I.kp c a hc
    have := idx_at (ok.ask_nd a) h2
    exact ⟨c, (ends_on ok I).mpr hc, by omega⟩
/-- an answerer that agrees in both is as well off by any steady matching of the market made longer -/
theorem ends_worst {m n : Mk} (ok : m.Ok) (okn : n.Ok) {asked : List Nat} {kept : List (Option Nat)} (I : Inv m asked kept) (D : Done m asked kept) (E : Ext m n) {mu : List (Option Nat)} (S : Steady n mu) {a b : Nat} (h : on (ends m.asks.length kept) a = some b) (hin : a ∈ n.ans b) :
    ∃ a', on mu a' = some b ∧ ¬rather (n.ans b) a (some a') := by
  have hk := (ends_on ok I).mp h
  obtain ⟨haN, j, h1, h2, h3⟩ := I.kp b a hk
  by_cases hmu : on mu a = some b
  · refine ⟨a, hmu, fun z => ?_⟩
    rcases z.2 a rfl with w | w
    · exact w z.1
    · omega
  · refine S.nob a b ?_ hin
    refine pre_rather (E.pre a haN) (okn.ask_nd a) h2 fun i c hi hc => ?_
    by_cases ei : i = j
    · subst ei
      rw [h2] at hc
      cases hc
      exact hmu
    · refine I.op n mu okn E S a i c (by omega) hc fun z => ?_
      have := I.one ok hk z
      subst this
      have := idx_at (ok.ask_nd a) h2
      have := idx_at (ok.ask_nd a) hc
      omega
end Mkt
set_option Elab.async false
set_option linter.all false
set_option maxRecDepth 100000
set_option maxHeartbeats 4000000
namespace Mkt
/-- how good somebody is by a list: less is better -/
def pl (L : List Nat) (x : Option Nat) : Nat := match x with
  | none => L.length
  | some z => if z ∈ L then L.idxOf z else L.length + 1
theorem pl_in {L : List Nat} {z : Nat} (h : z ∈ L) : pl L (some z) = L.idxOf z := by simp [pl, h]
theorem pl_lt {L : List Nat} {z : Nat} (h : z ∈ L) : pl L (some z) < L.length := by
  rw [pl_in h]
  exact List.idxOf_lt_length_of_mem h
theorem pl_none (L : List Nat) : pl L none = L.length := rfl
theorem not_rather {L : List Nat} {x y : Nat} (hx : x ∈ L) (h : ¬rather L x (some y)) : y ∈ L ∧ L.idxOf y ≤ L.idxOf x := by
  constructor
  · exact Classical.byContradiction fun z => h ⟨hx, fun w e => by cases e; exact .inl z⟩
  · exact Classical.byContradiction fun z => h ⟨hx, fun w e => by cases e; exact .inr (by omega)⟩
/-- the end of asking -/
def Best (m : Mk) (mu : List (Option Nat)) : Prop := ∃ asked kept, Inv m asked kept ∧ Done m asked kept ∧ mu = ends m.asks.length kept
theorem Best.steady {m : Mk} (ok : m.Ok) {mu : List (Option Nat)} (h : Best m mu) : Steady m mu := by
  obtain ⟨asked, kept, I, D, rfl⟩ := h
  exact ends_steady ok I D
theorem Best.best {m n : Mk} (ok : m.Ok) (okn : n.Ok) {mu nu : List (Option Nat)} (h : Best m mu) (E : Ext m n) (S : Steady n nu) {a b : Nat} (hn : on nu a = some b) (hb : b ∈ m.ask a) : ∃ c, on mu a = some c ∧ (m.ask a).idxOf c ≤ (m.ask a).idxOf b := by
  obtain ⟨asked, kept, I, D, rfl⟩ := h
  exact ends_best ok okn I D E S hn hb
theorem Best.worst {m n : Mk} (ok : m.Ok) (okn : n.Ok) {mu nu : List (Option Nat)} (h : Best m mu) (E : Ext m n) (S : Steady n nu) {a b : Nat} (hm : on mu a = some b) (hin : a ∈ n.ans b) : ∃ a', on nu a' = some b ∧ ¬rather (n.ans b) a (some a') := by
  obtain ⟨asked, kept, I, D, rfl⟩ := h
  exact ends_worst ok okn I D E S hm hin
/-- whom each one of the other side has -/
structure Back (n : Nat) (mu nu : List (Option Nat)) : Prop where
  len : nu.length = n
  iff : ∀ a b, on nu b = some a ↔ on mu a = some b
def Mk.turn (m : Mk) : Mk := ⟨m.answers, m.asks⟩
theorem Mk.Ok.turn {m : Mk} (h : m.Ok) : m.turn.Ok := ⟨h.nb, h.na⟩
/-- a market, and one with an asker more, or with a longer list of asker k -/
structure Wide (m n : Mk) (k : Nat) : Prop where
  la : m.asks.length ≤ n.asks.length
  lb : n.answers.length = m.answers.length
  pre : ∀ a, a < m.asks.length → m.ask a <+: n.ask a
  same : ∀ a, a < m.asks.length → a ≠ k → m.ask a = n.ask a
  mem : ∀ b x, x < m.asks.length → (x ∈ m.ans b ↔ x ∈ n.ans b)
  ord : ∀ b x y, x < m.asks.length → y < m.asks.length → (rather (m.ans b) x (some y) ↔ rather (n.ans b) x (some y))
theorem Wide.ext {m n : Mk} {k : Nat} (w : Wide m n k) : Ext m n where
  pre := w.pre
  no := fun b a ha h z => h ((w.mem b a ha).mpr z)
  ord := fun b x y hx hy h _ => (w.ord b x y hx hy).mp h
section
variable {m n : Mk} {k : Nat}
/-- by asking: no other asker is better off -/
theorem askers_A (ok : m.Ok) (okn : n.Ok) (w : Wide m n k) {mu nu : List (Option Nat)} (hm : Best m mu) (hn : Best n nu) {a : Nat} (ha : a < m.asks.length) (hk : a ≠ k) : pl (m.ask a) (on mu a) ≤ pl (m.ask a) (on nu a) := by
  have Sm := hm.steady ok
  have Sn := hn.steady okn
  have hle : pl (m.ask a) (on mu a) ≤ (m.ask a).length := by
    cases e : on mu a with
    | none => exact Nat.le_refl _
    | some b => exact Nat.le_of_lt (pl_lt (Sm.ira a b e))
  cases e : on nu a with
  | none => exact hle
  | some b =>
    have hb : b ∈ m.ask a := by
      rw [w.same a ha hk]
      exact Sn.ira a b e
    obtain ⟨c, h1, h2⟩ := hm.best ok okn w.ext Sn e hb
    rw [h1, pl_in (Sm.ira a c h1), pl_in hb]
    exact h2
/-- by asking: no answerer is worse off -/
theorem answerers_A (ok : m.Ok) (okn : n.Ok) (w : Wide m n k) {mu nu bm bn : List (Option Nat)} {N N' : Nat} (hm : Best m mu) (hn : Best n nu) (Bm : Back N mu bm) (Bn : Back N' nu bn) (b : Nat) : pl (n.ans b) (on bn b) ≤ pl (n.ans b) (on bm b) := by
  have Sm := hm.steady ok
  have Sn := hn.steady okn
  have hle : pl (n.ans b) (on bn b) ≤ (n.ans b).length := by
    cases e : on bn b with
    | none => exact Nat.le_refl _
    | some a => exact Nat.le_of_lt (pl_lt (Sn.irb a b ((Bn.iff a b).mp e)))
  cases e : on bm b with
  | none => exact hle
  | some a =>
    have e1 := (Bm.iff a b).mp e
    have hin := Sm.irb a b e1
    have hin2 := (w.mem b a (ok.ans_lt hin)).mp hin
    obtain ⟨a', h1, h2⟩ := hm.worst ok okn w.ext Sn e1 hin2
    obtain ⟨h3, h4⟩ := not_rather hin2 h2
    rw [(Bn.iff a' b).mpr h1, pl_in h3, pl_in hin2]
    exact h4
/-- the market before, with the lists of answerers of the market behind -/
def pad (m n : Mk) : Mk := ⟨n.answers, (List.range n.asks.length).map fun a => m.ask a⟩
theorem pad_ans (w : Wide m n k) (a : Nat) : (pad m n).ans a = m.ask a := by
  unfold pad Mk.ans
  by_cases h : a < n.asks.length
  · rw [List.getD_eq_getElem?_getD, List.getElem?_map, List.getElem?_range h]
    rfl
  · rw [getD_out (by simp; omega)]
    unfold Mk.ask
    rw [getD_out (by have := w.la; omega)]
theorem pad_ask (b : Nat) : (pad m n).ask b = n.ans b := rfl
theorem pad_ok (ok : m.Ok) (okn : n.Ok) (w : Wide m n k) : (pad m n).Ok := by
  refine ⟨fun L hL => ?_, fun L hL => ?_⟩
  · have := okn.nb L hL
    simpa [pad] using this
  · obtain ⟨a, _, rfl⟩ := List.mem_map.mp hL
    refine ⟨ok.ask_nd a, fun b hb => ?_⟩
    have := ok.ask_lt hb
    show b < n.answers.length
    rw [w.lb]
    exact this
theorem pre_ord {L N : List Nat} (p : L <+: N) (hN : N.Nodup) {x y : Nat} (h : rather N x (some y)) (hy : y ∈ L) : rather L x (some y) := by
  obtain ⟨t, rfl⟩ := p
  have hyN : y ∈ L ++ t := List.mem_append_left _ hy
  have e1 : (L ++ t).idxOf y = L.idxOf y := by rw [List.idxOf_append, if_pos hy]
  have hlt := List.idxOf_lt_length_of_mem hy
  rcases h.2 y rfl with k | k
  · exact absurd hyN k
  · have hx : x ∈ L := Classical.byContradiction fun z => by
      rw [List.idxOf_append (a := x), if_neg z] at k
      omega
    have e2 : (L ++ t).idxOf x = L.idxOf x := by rw [List.idxOf_append, if_pos hx]
    refine ⟨hx, fun w e => ?_⟩
    cases e
    exact .inr (by omega)
theorem pad_ext (okn : n.Ok) (w : Wide m n k) : Ext n.turn (pad m n) where
  pre := fun b hb => List.prefix_refl _
  no := fun a b hb h z => by
    rw [pad_ans w] at z
    by_cases ha : a < m.asks.length
    · exact h ((w.pre a ha).subset z)
    · unfold Mk.ask at z
      rw [getD_out (by omega)] at z
      cases z
  ord := fun a x y hx hy h z => by
    rw [pad_ans w] at z ⊢
    by_cases ha : a < m.asks.length
    · exact pre_ord (w.pre a ha) (okn.ask_nd a) h z
    · unfold Mk.ask at z
      rw [getD_out (by omega)] at z
      cases z
theorem pad_steady (ok : m.Ok) (w : Wide m n k) {nu : List (Option Nat)} (S : Steady m.turn nu) : Steady (pad m n) nu where
  len := by
    show nu.length = n.answers.length
    rw [w.lb]
    exact S.len
  inj := S.inj
  ira := fun b a h => by
    have h1 : a ∈ m.ans b := S.ira b a h
    exact (w.mem b a (ok.ans_lt h1)).mp h1
  irb := fun b a h => by
    rw [pad_ans w]
    exact S.irb b a h
  nob := fun b a r hb => by
    rw [pad_ans w] at hb ⊢
    have ha : a < m.asks.length := Classical.byContradiction fun z => by
      unfold Mk.ask at hb
      rw [getD_out (by omega)] at hb
      cases hb
    refine S.nob b a ?_ hb
    have r : rather (n.ans b) a (on nu b) := r
    show rather (m.ans b) a (on nu b)
    cases e : on nu b with
    | none => exact ⟨(w.mem b a ha).mpr r.1, fun z e => nomatch e⟩
    | some a0 =>
      rw [e] at r
      have h0 : a0 ∈ m.ans b := S.ira b a0 e
      exact (w.ord b a a0 ha (ok.ans_lt h0)).mpr r
/-- by the other side's asking: no answerer is worse off -/
theorem answerers_B (ok : m.Ok) (okn : n.Ok) (w : Wide m n k) {mu nu : List (Option Nat)} (hm : Best m.turn mu) (hn : Best n.turn nu) (b : Nat) : pl (n.ans b) (on nu b) ≤ pl (n.ans b) (on mu b) := by
  have Sm := pad_steady ok w (hm.steady ok.turn)
  have Sn := hn.steady okn.turn
  have hle : pl (n.ans b) (on nu b) ≤ (n.ans b).length := by
    cases e : on nu b with
    | none => exact Nat.le_refl _
    | some a => exact Nat.le_of_lt (pl_lt (Sn.ira b a e))
  cases e : on mu b with
  | none => exact hle
  | some a =>
    have hin : a ∈ n.ans b := Sm.ira b a e
    obtain ⟨c, h1, h2⟩ := hn.best okn.turn (pad_ok ok okn w) (pad_ext okn w) Sm e hin
    have hc : c ∈ n.ans b := Sn.ira b c h1
    rw [h1, pl_in hc, pl_in hin]
    exact h2
/-- by the other side's asking: no other asker is better off -/
theorem askers_B (ok : m.Ok) (okn : n.Ok) (w : Wide m n k) {mu nu bm bn : List (Option Nat)} {N N' : Nat} (hm : Best m.turn mu) (hn : Best n.turn nu) (Bm : Back N mu bm) (Bn : Back N' nu bn) {a : Nat} (ha : a < m.asks.length) (hk : a ≠ k) : pl (m.ask a) (on bm a) ≤ pl (m.ask a) (on bn a) := by
  have Sm := hm.steady ok.turn
  have Sp := pad_steady ok w Sm
  have Sn := hn.steady okn.turn
  have hle : pl (m.ask a) (on bm a) ≤ (m.ask a).length := by
    cases e : on bm a with
    | none => exact Nat.le_refl _
    | some b => exact Nat.le_of_lt (pl_lt (Sm.irb b a ((Bm.iff b a).mp e)))
  cases e : on bn a with
  | none => exact hle
  | some b =>
    have e1 := (Bn.iff b a).mp e
    have hb : b ∈ m.ask a := by
      rw [w.same a ha hk]
      exact Sn.irb b a e1
    have hin : b ∈ (pad m n).ans a := by
      rw [pad_ans w]
      exact hb
    obtain ⟨b', h1, h2⟩ := hn.worst okn.turn (pad_ok ok okn w) (pad_ext okn w) Sp e1 hin
    rw [pad_ans w] at h2
    obtain ⟨h3, h4⟩ := not_rather hb h2
    rw [(Bm.iff b' a).mpr h1, pl_in h3, pl_in hb]
    exact h4
end
/-- a list of asker k made longer -/
theorem wide_longer {m : Mk} {k : Nat} {L : List Nat} (hL : m.ask k <+: L) : Wide m ⟨m.asks.set k L, m.answers⟩ k := by
  have e : ∀ a, a < m.asks.length → (⟨m.asks.set k L, m.answers⟩ : Mk).ask a = if k = a then L else m.ask a := fun a ha => by
    unfold Mk.ask
    simp only
    rw [List.getD_eq_getElem?_getD, List.getElem?_set, List.getD_eq_getElem?_getD]
    by_cases e : k = a
    · subst e
      simp [ha]
    · simp [e]
  refine ⟨by simp, rfl, fun a ha => ?_, fun a ha hk => ?_, fun b x _ => Iff.rfl, fun b x y _ _ => Iff.rfl⟩
  · rw [e a ha]
    split
    · rename_i h
      subst h
      exact hL
    · exact List.prefix_refl _
  · rw [e a ha, if_neg fun z => hk z.symm]
/-- put in somewhere, or not at all -/
def Put (x : Nat) (L N : List Nat) : Prop := N = L ∨ ∃ u v, L = u ++ v ∧ N = u ++ x :: v
theorem Put.mem {x z : Nat} {L N : List Nat} (h : Put x L N) (hz : z ≠ x) : z ∈ L ↔ z ∈ N := by
  rcases h with rfl | ⟨u, v, rfl, rfl⟩
  · exact Iff.rfl
  · simp [hz]
theorem Put.idx {x y z : Nat} {L N : List Nat} (h : Put x L N) (hy : y ≠ x) (hz : z ≠ x) (my : y ∈ L) (mz : z ∈ L) : L.idxOf y < L.idxOf z ↔ N.idxOf y < N.idxOf z := by
  rcases h with rfl | ⟨u, v, rfl, rfl⟩
  · exact Iff.rfl
  · have e : ∀ w, w ≠ x → (u ++ x :: v).idxOf w = if w ∈ u then u.idxOf w else (u ++ v).idxOf w + 1 := fun w hw => by
      rw [List.idxOf_append]
      split
      · rfl
      · rename_i h
        have e2 : (x :: v).idxOf w = v.idxOf w + 1 := by
          have : (x == w) = false := by simpa using Ne.symm hw
          simp [List.idxOf_cons, this]
        rw [List.idxOf_append, if_neg h, e2]
        omega
    have f : ∀ w, w ∈ u → (u ++ v).idxOf w = u.idxOf w := fun w hw => by rw [List.idxOf_append, if_pos hw]
    have g : ∀ w, w ∉ u → u.length ≤ (u ++ v).idxOf w := fun w hw => by rw [List.idxOf_append, if_neg hw]; omega
    rw [e y hy, e z hz]
    by_cases h1 : y ∈ u <;> by_cases h2 : z ∈ u
    · rw [if_pos h1, if_pos h2, f y h1, f z h2]
    · rw [if_pos h1, if_neg h2, f y h1]
      have := List.idxOf_lt_length_of_mem h1
      have := g z h2
      omega
    · rw [if_neg h1, if_pos h2, f z h2]
      have := List.idxOf_lt_length_of_mem h2
      have := g y h1
      omega
    · rw [if_neg h1, if_neg h2]
      omega
/-- an asker more -/
theorem wide_more {m : Mk} (ok : m.Ok) {L : List Nat} {A : List (List Nat)} (hl : A.length = m.answers.length) (hp : ∀ b, b < m.answers.length → Put m.asks.length (m.ans b) (A.getD b [])) : Wide m ⟨m.asks ++ [L], A⟩ m.asks.length := by
  have e : ∀ a, a < m.asks.length → (⟨m.asks ++ [L], A⟩ : Mk).ask a = m.ask a := fun a ha => by
    unfold Mk.ask
    simp only
    rw [List.getD_eq_getElem?_getD, List.getElem?_append_left ha, List.getD_eq_getElem?_getD]
  have hP : ∀ b, Put m.asks.length (m.ans b) (A.getD b []) := fun b => by
    by_cases hb : b < m.answers.length
    · exact hp b hb
    · refine .inl ?_
      unfold Mk.ans
      rw [getD_out (by omega), getD_out (by omega)]
  refine ⟨by simp, hl, fun a ha => ?_, fun a ha _ => (e a ha).symm, fun b x hx => (hP b).mem (by omega), fun b x y hx hy => ?_⟩
  · rw [e a ha]
    exact List.prefix_refl _
  · have mx := (hP b).mem (z := x) (by omega)
    have my := (hP b).mem (z := y) (by omega)
    constructor
    · rintro ⟨h1, h2⟩
      refine ⟨mx.mp h1, fun z w => ?_⟩
      cases w
      rcases h2 y rfl with h | h
      · exact .inl fun z => h (my.mpr z)
      · by_cases hy2 : y ∈ m.ans b
        · exact .inr (((hP b).idx (by omega) (by omega) h1 hy2).mp h)
        · exact .inl fun z => hy2 (my.mpr z)
    · rintro ⟨h1, h2⟩
      refine ⟨mx.mpr h1, fun z w => ?_⟩
      cases w
      rcases h2 y rfl with h | h
      · exact .inl fun z => h (my.mp z)
      · by_cases hy2 : y ∈ m.ans b
        · exact .inr (((hP b).idx (by omega) (by omega) (mx.mpr h1) hy2).mpr h)
        · exact .inl hy2
end Mkt
set_option Elab.async false
set_option linter.all false
set_option maxRecDepth 100000
set_option maxHeartbeats 4000000
/-! the lattice of steady matchings. -/
namespace Mkt
/-- a matching -/
structure Valid (m : Mk) (mu : List (Option Nat)) : Prop where
  len : mu.length = m.asks.length
  inj : ∀ a a' b, on mu a = some b → on mu a' = some b → a = a'
  rng : ∀ a b, on mu a = some b → b < m.answers.length
theorem Steady.valid {m : Mk} (ok : m.Ok) {mu : List (Option Nat)} (S : Steady m mu) : Valid m mu := ⟨S.len, S.inj, fun a b h => ok.ask_lt (S.ira a b h)⟩
theorem Ext.refl (m : Mk) : Ext m m := ⟨fun _ _ => List.prefix_refl _, fun _ _ _ h => h, fun _ _ _ _ _ h _ => h⟩
theorem pl_le {m : Mk} {mu : List (Option Nat)} (S : Steady m mu) (a : Nat) : pl (m.ask a) (on mu a) ≤ (m.ask a).length := by
  cases e : on mu a with
  | none => exact Nat.le_refl _
  | some b => exact Nat.le_of_lt (pl_lt (S.ira a b e))
theorem idx_inj {L : List Nat} {x y : Nat} (hx : x ∈ L) (hy : y ∈ L) (h : L.idxOf x = L.idxOf y) : x = y := by
  have h3 := List.getElem_idxOf (List.idxOf_lt_length_of_mem hx)
  have h4 := List.getElem_idxOf (List.idxOf_lt_length_of_mem hy)
  rw [← h3, ← h4]
  congr 1
/-- what is acceptable is told by its place -/
theorem pl_inj {L : List Nat} {x y : Option Nat} (hx : ∀ z, x = some z → z ∈ L) (hy : ∀ z, y = some z → z ∈ L) (h : pl L x = pl L y) : x = y := by
  cases x with
  | none =>
    cases y with
    | none => rfl
    | some y =>
      have := pl_lt (hy y rfl)
      rw [pl_none] at h
      omega
  | some x =>
    have h1 := pl_lt (hx x rfl)
    cases y with
    | none =>
      rw [pl_none] at h
      omega
    | some y =>
      rw [pl_in (hx x rfl), pl_in (hy y rfl)] at h
      rw [idx_inj (hx x rfl) (hy y rfl) h]
theorem rather_pl {L : List Nat} {x : Nat} {y : Option Nat} (hx : x ∈ L) (hy : ∀ z, y = some z → z ∈ L) : rather L x y ↔ pl L (some x) < pl L y := by
  rw [pl_in hx]
  cases y with
  | none =>
    rw [pl_none]
    exact ⟨fun _ => List.idxOf_lt_length_of_mem hx, fun _ => ⟨hx, fun z e => nomatch e⟩⟩
  | some y =>
    rw [pl_in (hy y rfl)]
    constructor
    · intro h
      rcases h.2 y rfl with k | k
      · exact absurd (hy y rfl) k
      · exact k
    · exact fun h => ⟨hx, fun w e => by cases e; exact .inr h⟩
theorem list_ext {l l' : List (Option Nat)} (h : l.length = l'.length) (k : ∀ i, on l i = on l' i) : l = l' := by
  refine List.ext_getElem h fun i h1 h2 => ?_
  have := k i
  unfold on at this
  rw [List.getD_eq_getElem?_getD, List.getD_eq_getElem?_getD, List.getElem?_eq_getElem h1, List.getElem?_eq_getElem h2] at this
  exact this
theorem Steady.eq {m : Mk} {mu nu : List (Option Nat)} (S : Steady m mu) (T : Steady m nu) (h : ∀ a, pl (m.ask a) (on mu a) = pl (m.ask a) (on nu a)) : mu = nu :=
  list_ext (by rw [S.len, T.len]) fun a => pl_inj (S.ira a) (T.ira a) (h a)
/-- a list within another one that is no longer -/
theorem sub_all {l l' : List Nat} (hd : l.Nodup) (hs : ∀ x ∈ l, x ∈ l') (hl : l'.length ≤ l.length) : ∀ x ∈ l', x ∈ l := by
  intro x hx
  refine Classical.byContradiction fun hn => ?_
  have := List.Nodup.length_le_of_subset (l₁ := x :: l) (l₂ := l') (List.nodup_cons.mpr ⟨hn, hd⟩) fun y hy => by
    rcases List.mem_cons.mp hy with rfl | hy
    · exact hx
    · exact hs y hy
  simp at this
  omega
section
variable {m : Mk} {mu nu : List (Option Nat)}
/-- one of an asker that has a better one by nu is better off by mu -/
theorem cross (ok : m.Ok) (S : Steady m mu) (T : Steady m nu) {a b : Nat} (h : on nu a = some b) (hlt : pl (m.ask a) (on nu a) < pl (m.ask a) (on mu a)) : ∃ a', on mu a' = some b ∧ a' ≠ a ∧ rather (m.ans b) a' (some a) := by
  have hb := T.ira a b h
  have hab := T.irb a b h
  have r : rather (m.ask a) b (on mu a) := (rather_pl hb (S.ira a)).mpr (by rw [← h]; exact hlt)
  obtain ⟨a', h1, h2⟩ := S.nob a b r hab
  have ne : a' ≠ a := fun z => by
    rw [z] at h1
    rw [h1, h] at hlt
    omega
  exact ⟨a', h1, ne, rather_not hab (fun z => ne z.symm) h2⟩
/-- who is better off by nu has somebody by mu, and that one is better off by mu -/
theorem decomp (ok : m.Ok) (S : Steady m mu) (T : Steady m nu) {a : Nat} (hlt : pl (m.ask a) (on nu a) < pl (m.ask a) (on mu a)) : ∃ b a', on mu a = some b ∧ on nu a' = some b ∧ rather (m.ans b) a (some a') := by
  -- askers that are better off by nu; whom they have by nu
  let SA := (List.range m.asks.length).filter fun a => decide (pl (m.ask a) (on nu a) < pl (m.ask a) (on mu a))
  have memS : ∀ a, a ∈ SA ↔ pl (m.ask a) (on nu a) < pl (m.ask a) (on mu a) := fun a => by
    show a ∈ (List.range m.asks.length).filter _ ↔ _
    rw [List.mem_filter, List.mem_range, decide_eq_true_eq]
    constructor
    · exact fun h => h.2
    · intro h
      refine ⟨Classical.byContradiction fun z => ?_, h⟩
      have h1 : on mu a = none := getD_out (by rw [S.len]; omega)
      have h2 : on nu a = none := getD_out (by rw [T.len]; omega)
      rw [h1, h2] at h
      omega
  have hnu : ∀ a ∈ SA, ∃ b, on nu a = some b := fun a ha => by
    have h := (memS a).mp ha
    cases e : on nu a with
    | some b => exact ⟨b, rfl⟩
    | none =>
      rw [e, pl_none] at h
      have := pl_le S a
      omega
  -- from an asker of SA to whom its nu one has by mu
  have hf : ∀ a ∈ SA, ∃ a', a' ∈ SA ∧ ∃ b, on nu a = some b ∧ on mu a' = some b := fun a ha => by
    obtain ⟨b, hb⟩ := hnu a ha
    obtain ⟨a', h1, ne, r⟩ := cross ok S T hb ((memS a).mp ha)
    refine ⟨a', (memS a').mpr ?_, b, hb, h1⟩
    -- a' is better off by nu: else a' and b break nu
    refine Classical.byContradiction fun z => ?_
    have hb' := S.ira a' b h1
    have hne : on nu a' ≠ some b := fun w => ne (T.inj a' a b w hb)
    have hlt2 : pl (m.ask a') (on mu a') < pl (m.ask a') (on nu a') := by
      have : pl (m.ask a') (on mu a') ≠ pl (m.ask a') (on nu a') := fun w => hne (by rw [← pl_inj (S.ira a') (T.ira a') w]; exact h1)
      omega
    have r2 : rather (m.ask a') b (on nu a') := (rather_pl hb' (T.ira a')).mpr (by rw [← h1]; exact hlt2)
    obtain ⟨a2, g1, g2⟩ := T.nob a' b r2 r.1
    have := T.inj a2 a b g1 hb
    subst this
    exact g2 r
  -- so each of SA is one of these
  let f : Nat → Nat := fun a => if h : a ∈ SA then Classical.choose (hf a h) else 0
  have fs : ∀ a, ∀ h : a ∈ SA, f a ∈ SA ∧ ∃ b, on nu a = some b ∧ on mu (f a) = some b := fun a h => by
    have e : f a = Classical.choose (hf a h) := dif_pos h
    rw [e]
    exact Classical.choose_spec (hf a h)
  have nd : (SA.map f).Nodup := by
    have hn : SA.Nodup := List.nodup_range.filter _
    refine List.pairwise_map.mpr (hn.imp_of_mem fun {x y} hx hy ne e => ne ?_)
    obtain ⟨_, b, h1, h2⟩ := fs x hx
    obtain ⟨_, c, h3, h4⟩ := fs y hy
    rw [e, h4] at h2
    cases h2
    exact T.inj x y b h1 h3
  have hsub : ∀ x ∈ SA.map f, x ∈ SA := fun x hx => by
    obtain ⟨y, hy, rfl⟩ := List.mem_map.mp hx
    exact (fs y hy).1
  have hall := sub_all nd hsub (by rw [List.length_map]; exact Nat.le_refl _)
  obtain ⟨a0, ha0, e0⟩ := List.mem_map.mp (hall a ((memS a).mpr hlt))
  obtain ⟨_, b, h1, h2⟩ := fs a0 ha0
  rw [e0] at h2
  obtain ⟨a', g1, g2, g3⟩ := cross ok S T h1 ((memS a0).mp ha0)
  have : a' = a := S.inj a' a b g1 h2
  subst this
  exact ⟨b, a0, h2, h1, g3⟩
/-- the better one for each asker -/
def joinF (m : Mk) (mu nu : List (Option Nat)) : List (Option Nat) := (List.range m.asks.length).map fun a => if pl (m.ask a) (on nu a) < pl (m.ask a) (on mu a) then on nu a else on mu a
theorem joinF_on (S : Steady m mu) (T : Steady m nu) (a : Nat) : on (joinF m mu nu) a = if pl (m.ask a) (on nu a) < pl (m.ask a) (on mu a) then on nu a else on mu a := by
  by_cases ha : a < m.asks.length
  · unfold joinF
    rw [show on ((List.range m.asks.length).map fun a => if pl (m.ask a) (on nu a) < pl (m.ask a) (on mu a) then on nu a else on mu a) a = (((List.range m.asks.length).map fun a => if pl (m.ask a) (on nu a) < pl (m.ask a) (on mu a) then on nu a else on mu a)[a]?).getD none from List.getD_eq_getElem?_getD .., List.getElem?_map, List.getElem?_range ha]
    rfl
  · have h1 : on mu a = none := getD_out (by rw [S.len]; omega)
    have h2 : on nu a = none := getD_out (by rw [T.len]; omega)
    have h3 : on (joinF m mu nu) a = none := getD_out (by simp [joinF]; omega)
    rw [h1, h2, h3]
    simp
theorem joinF_pl (S : Steady m mu) (T : Steady m nu) (a : Nat) : pl (m.ask a) (on (joinF m mu nu) a) = min (pl (m.ask a) (on mu a)) (pl (m.ask a) (on nu a)) := by
  rw [joinF_on S T]
  split <;> omega
theorem joinF_steady (ok : m.Ok) (S : Steady m mu) (T : Steady m nu) : Steady m (joinF m mu nu) := by
  have J := fun a => joinF_on S T a
  have cases_ : ∀ a, on (joinF m mu nu) a = on mu a ∧ pl (m.ask a) (on mu a) ≤ pl (m.ask a) (on nu a) ∨ on (joinF m mu nu) a = on nu a ∧ pl (m.ask a) (on nu a) < pl (m.ask a) (on mu a) := fun a => by
    rw [J a]
    split
    · exact .inr ⟨rfl, by assumption⟩
    · exact .inl ⟨rfl, by omega⟩
  -- who is better off by one of them, whom two have
  have no : ∀ x y b, on mu x = some b → on nu y = some b → pl (m.ask x) (on mu x) ≤ pl (m.ask x) (on nu x) → pl (m.ask y) (on nu y) < pl (m.ask y) (on mu y) → False := fun x y b h1 h2 h3 h4 => by
    obtain ⟨a', g1, g2, g3⟩ := cross ok S T h2 h4
    have : a' = x := S.inj a' x b g1 h1
    subst this
    have hne : on nu a' ≠ some b := fun w => g2 (T.inj a' y b w h2)
    have h5 : pl (m.ask a') (on mu a') < pl (m.ask a') (on nu a') := by
      have : pl (m.ask a') (on mu a') ≠ pl (m.ask a') (on nu a') := fun w => hne (by rw [← pl_inj (S.ira a') (T.ira a') w]; exact h1)
      omega
    obtain ⟨a2, k1, k2, k3⟩ := cross ok T S h1 h5
    have : a2 = y := T.inj a2 y b k1 h2
    subst this
    rcases g3.2 a2 rfl with w | w
    · exact w k3.1
    · rcases k3.2 a' rfl with v | v
      · exact v g3.1
      · omega
  refine ⟨by simp [joinF], fun a a' b h h' => ?_, fun a b h => ?_, fun a b h => ?_, fun a b r hab => ?_⟩
  · rcases cases_ a with ⟨e1, l1⟩ | ⟨e1, l1⟩ <;> rcases cases_ a' with ⟨e2, l2⟩ | ⟨e2, l2⟩ <;> rw [e1] at h <;> rw [e2] at h'
    · exact S.inj _ _ _ h h'
    · exact (no a a' b h h' l1 l2).elim
    · exact (no a' a b h' h l2 l1).elim
    · exact T.inj _ _ _ h h'
  · rcases cases_ a with ⟨e1, _⟩ | ⟨e1, _⟩ <;> rw [e1] at h
    · exact S.ira a b h
    · exact T.ira a b h
  · rcases cases_ a with ⟨e1, _⟩ | ⟨e1, _⟩ <;> rw [e1] at h
    · exact S.irb a b h
    · exact T.irb a b h
  · have hb := r.1
    have hJ : ∀ z, on (joinF m mu nu) a = some z → z ∈ m.ask a := fun z e => by
      rcases cases_ a with ⟨e1, _⟩ | ⟨e1, _⟩ <;> rw [e1] at e
      · exact S.ira a z e
      · exact T.ira a z e
    have hpl := (rather_pl hb hJ).mp r
    have hmin := joinF_pl S T a
    obtain ⟨a1, f1, f2⟩ := S.nob a b ((rather_pl hb (S.ira a)).mpr (by omega)) hab
    obtain ⟨a2, g1, g2⟩ := T.nob a b ((rather_pl hb (T.ira a)).mpr (by omega)) hab
    rcases cases_ a1 with ⟨e1, l1⟩ | ⟨e1, l1⟩
    · exact ⟨a1, by rw [e1]; exact f1, f2⟩
    · rcases cases_ a2 with ⟨e2, l2⟩ | ⟨e2, l2⟩
      · exfalso
        -- both let b go
        obtain ⟨b', y, k1, k2, k3⟩ := decomp ok S T l1
        rw [f1] at k1
        cases k1
        have hy : y = a2 := T.inj y a2 b k2 g1
        subst hy
        have hlt : pl (m.ask y) (on mu y) < pl (m.ask y) (on nu y) := by
          have : pl (m.ask y) (on mu y) ≠ pl (m.ask y) (on nu y) := fun w => by
            have e := pl_inj (S.ira y) (T.ira y) w
            rw [g1] at e
            have := S.inj y a1 b e f1
            subst this
            rw [g1, f1] at l1
            omega
          omega
        obtain ⟨b2, z, q1, q2, q3⟩ := decomp ok T S hlt
        rw [g1] at q1
        cases q1
        have hz : z = a1 := S.inj z a1 b q2 f1
        subst hz
        rcases k3.2 y rfl with w | w
        · exact w q3.1
        · rcases q3.2 z rfl with v | v
          · exact v k3.1
          · omega
      · exact ⟨a2, by rw [e2]; exact g1, g2⟩
/-- the same askers have somebody -/
theorem rural (ok : m.Ok) (S : Steady m mu) (T : Steady m nu) (a : Nat) : on mu a = none ↔ on nu a = none := by
  have key : ∀ {mu nu : List (Option Nat)}, Steady m mu → Steady m nu → on mu a = none → on nu a = none := fun {mu nu} S T h => by
    cases e : on nu a with
    | none => rfl
    | some b =>
      have hlt : pl (m.ask a) (on nu a) < pl (m.ask a) (on mu a) := by
        rw [h, pl_none, e]
        exact pl_lt (T.ira a b e)
      obtain ⟨c, _, k, _⟩ := decomp ok S T hlt
      rw [h] at k
      cases k
  exact ⟨key S T, key T S⟩
/-- whom the other side has is steady there -/
theorem Back.steady (S : Steady m mu) {bm : List (Option Nat)} (B : Back m.answers.length mu bm) : Steady m.turn bm where
  len := B.len
  inj := fun b b' a h h' => by
    have h1 := (B.iff a b).mp h
    have h2 := (B.iff a b').mp h'
    rw [h1] at h2
    exact Option.some.inj h2
  ira := fun b a h => S.irb a b ((B.iff a b).mp h)
  irb := fun b a h => S.ira a b ((B.iff a b).mp h)
  nob := fun b a r hb => by
    have r : rather (m.ans b) a (on bm b) := r
    have hb : b ∈ m.ask a := hb
    show ∃ b', on bm b' = some a ∧ ¬rather (m.ask a) b (some b')
    -- were a to have b rather than its own, they would break mu
    refine Classical.byContradiction fun z => ?_
    have r2 : rather (m.ask a) b (on mu a) := by
      cases e : on mu a with
      | none => exact ⟨hb, fun z e => nomatch e⟩
      | some b' => exact Classical.byContradiction fun w => z ⟨b', (B.iff a b').mpr e, w⟩
    obtain ⟨a', h1, h2⟩ := S.nob a b r2 r.1
    rw [(B.iff a' b).mpr h1] at r
    exact h2 r
theorem Back.back {bm cm : List (Option Nat)} (hl : mu.length = m.asks.length) (B : Back m.answers.length mu bm) (C : Back m.asks.length bm cm) : cm = mu :=
  list_ext (by rw [C.len, hl]) fun a => by
    have h : ∀ b, on cm a = some b ↔ on mu a = some b := fun b => (C.iff b a).trans (B.iff a b)
    cases e : on cm a with
    | some b => exact ((h b).mp e).symm
    | none =>
      cases e2 : on mu a with
      | none => rfl
      | some b =>
        have := (h b).mpr e2
        rw [e] at this
        cases this
/-- the worse one for each asker: by the other side's better ones -/
theorem worse_pl (ok : m.Ok) (S : Steady m mu) (T : Steady m nu) {bm bn cm : List (Option Nat)} (Bm : Back m.answers.length mu bm) (Bn : Back m.answers.length nu bn) (C : Back m.asks.length (joinF m.turn bm bn) cm) (a : Nat) : pl (m.ask a) (on cm a) = max (pl (m.ask a) (on mu a)) (pl (m.ask a) (on nu a)) := by
  have Sb := Bm.steady S
  have Tb := Bn.steady T
  have J := fun b => joinF_on (m := m.turn) Sb Tb b
  -- b has a by the join just if
  have hJ : ∀ {mu nu bm bn : List (Option Nat)} {b a a' : Nat}, Steady m mu → Steady m nu → Back m.answers.length mu bm → Back m.answers.length nu bn → on mu a = some b → on nu a' = some b → rather (m.ans b) a (some a') → pl (m.ans b) (on bm b) < pl (m.ans b) (on bn b) := fun {mu nu bm bn b a a'} S T Bm Bn h1 h2 r => by
    rw [(Bm.iff a b).mpr h1, (Bn.iff a' b).mpr h2]
    exact (rather_pl r.1 (fun z e => by cases e; exact T.irb a' b h2)).mp r
  by_cases h1 : pl (m.ask a) (on nu a) < pl (m.ask a) (on mu a)
  · obtain ⟨b, a', k1, k2, k3⟩ := decomp ok S T h1
    have hlt := hJ S T Bm Bn k1 k2 k3
    have e : on (joinF m.turn bm bn) b = some a := by
      rw [J b]
      have : ¬pl (m.turn.ask b) (on bn b) < pl (m.turn.ask b) (on bm b) := by
        show ¬pl (m.ans b) (on bn b) < pl (m.ans b) (on bm b)
        omega
      rw [if_neg this]
      exact (Bm.iff a b).mpr k1
    rw [(C.iff b a).mpr e, ← k1]
    omega
  · by_cases h2 : pl (m.ask a) (on mu a) < pl (m.ask a) (on nu a)
    · obtain ⟨b, a', k1, k2, k3⟩ := decomp ok T S h2
      have hlt := hJ T S Bn Bm k1 k2 k3
      have e : on (joinF m.turn bm bn) b = some a := by
        rw [J b]
        have : pl (m.turn.ask b) (on bn b) < pl (m.turn.ask b) (on bm b) := hlt
        rw [if_pos this]
        exact (Bn.iff a b).mpr k1
      rw [(C.iff b a).mpr e, ← k1]
      omega
    · have e := pl_inj (S.ira a) (T.ira a) (show pl (m.ask a) (on mu a) = pl (m.ask a) (on nu a) by omega)
      have e2 : on cm a = on mu a := by
        cases e3 : on mu a with
        | some b =>
          refine (C.iff b a).mpr ?_
          rw [J b]
          rw [e3] at e
          split
          · exact (Bn.iff a b).mpr e.symm
          · exact (Bm.iff a b).mpr e3
        | none =>
          cases e4 : on cm a with
          | none => rfl
          | some b =>
            have h5 := (C.iff b a).mp e4
            rw [J b] at h5
            rw [e3] at e
            split at h5
            · have := (Bn.iff a b).mp h5
              rw [← e] at this
              cases this
            · have := (Bm.iff a b).mp h5
              rw [e3] at this
              cases this
      rw [e2]
      omega
/-- asking comes to what is best for all askers -/
theorem best_top (ok : m.Ok) (h : Best m mu) (T : Steady m nu) (a : Nat) : pl (m.ask a) (on mu a) ≤ pl (m.ask a) (on nu a) := by
  have S := h.steady ok
  cases e : on nu a with
  | none => exact pl_le S a
  | some b =>
    have hb := T.ira a b e
    obtain ⟨c, h1, h2⟩ := h.best ok ok (Ext.refl m) T e hb
    rw [h1, pl_in (S.ira a c h1), pl_in hb]
    exact h2
/-- asking of the other side comes to what is worst for all askers -/
theorem best_bottom (ok : m.Ok) {bm cm : List (Option Nat)} (h : Best m.turn bm) (C : Back m.asks.length bm cm) (T : Steady m nu) {bn : List (Option Nat)} (Bn : Back m.answers.length nu bn) (a : Nat) : pl (m.ask a) (on nu a) ≤ pl (m.ask a) (on cm a) := by
  have S := h.steady ok.turn
  have Tb := Bn.steady T
  cases e : on cm a with
  | none => exact pl_le T a
  | some b =>
    have e1 := (C.iff b a).mp e
    have hin : b ∈ m.ask a := S.irb b a e1
    obtain ⟨b', h1, h2⟩ := h.worst ok.turn ok.turn (Ext.refl _) Tb e1 hin
    obtain ⟨h3, h4⟩ := not_rather hin h2
    rw [(Bn.iff a b').mp h1, pl_in h3, pl_in hin]
    exact h4
end
end Mkt
set_option Elab.async false
set_option linter.all false
set_option maxRecDepth 100000
set_option maxHeartbeats 4000000
/-! all matchings, which of them are steady. -/
namespace Mkt
/-- all rows of so many askers -/
def mats (nB : Nat) : Nat → List (List (Option Nat))
  | 0 => [[]]
  | k + 1 => (mats nB k).flatMap fun r => (none :: ((List.range nB).filter fun b => decide (some b ∉ r)).map some).map fun o => r ++ [o]
theorem on_app {l : List (Option Nat)} {o : Option Nat} {i : Nat} : on (l ++ [o]) i = if i < l.length then on l i else if i = l.length then o else none := by
  unfold on
  rw [List.getD_eq_getElem?_getD]
  by_cases h : i < l.length
  · rw [if_pos h, List.getElem?_append_left h, List.getD_eq_getElem?_getD]
  · rw [if_neg h, List.getElem?_append_right (by omega)]
    by_cases h2 : i = l.length
    · subst h2
      simp
    · rw [if_neg h2]
      have : i - l.length ≠ 0 := by omega
      rw [List.getElem?_eq_none (by simp; omega)]
      rfl
theorem mem_on {l : List (Option Nat)} {b : Nat} : some b ∈ l ↔ ∃ i, on l i = some b := by
  constructor
  · intro h
    exact ⟨_, on_idx h⟩
  · rintro ⟨i, h⟩
    exact (on_some h).2
theorem mats_mem {nB : Nat} : ∀ {k : Nat} {r : List (Option Nat)}, r ∈ mats nB k ↔ r.length = k ∧ (∀ a a' b, on r a = some b → on r a' = some b → a = a') ∧ ∀ a b, on r a = some b → b < nB
  | 0, r => by
    rw [mats, List.mem_singleton]
    constructor
    · rintro rfl
      refine ⟨rfl, fun a a' b h => ?_, fun a b h => ?_⟩ <;> · rw [show on [] a = none from getD_out (by simp)] at h; cases h
    · exact fun h => List.length_eq_zero_iff.mp h.1
  | k + 1, r => by
    rw [mats, List.mem_flatMap]
    constructor
    · rintro ⟨q, hq, hr⟩
      obtain ⟨hl, hi, hg⟩ := mats_mem.mp hq
      obtain ⟨o, ho, rfl⟩ := List.mem_map.mp hr
      have hob : ∀ b, o = some b → b < nB ∧ some b ∉ q := fun b e => by
        subst e
        rcases List.mem_cons.mp ho with h | h
        · cases h
        · obtain ⟨c, hc, e⟩ := List.mem_map.mp h
          cases e
          simpa using hc
      refine ⟨by simp [hl], fun a a' b h h' => ?_, fun a b h => ?_⟩
      · rw [on_app] at h h'
        by_cases h1 : a < q.length <;> by_cases h2 : a' < q.length
        · rw [if_pos h1] at h
          rw [if_pos h2] at h'
          exact hi a a' b h h'
        · rw [if_pos h1] at h
          rw [if_neg h2] at h'
          split at h'
          · exact absurd (mem_on.mpr ⟨a, h⟩) (hob b h').2
          · cases h'
        · rw [if_neg h1] at h
          rw [if_pos h2] at h'
          split at h
          · exact absurd (mem_on.mpr ⟨a', h'⟩) (hob b h).2
          · cases h
        · rw [if_neg h1] at h
          rw [if_neg h2] at h'
          split at h
          · split at h'
            · omega
            · cases h'
          · cases h
      · rw [on_app] at h
        split at h
        · exact hg a b h
        · split at h
          · exact (hob b h).1
          · cases h
    · rintro ⟨hl, hi, hg⟩
      have hne : r ≠ [] := fun e => by rw [e] at hl; simp at hl
      obtain ⟨q, o, rfl⟩ : ∃ q o, r = q ++ [o] := ⟨r.dropLast, r.getLast hne, (List.dropLast_concat_getLast hne).symm⟩
      have hql : q.length = k := by simpa using hl
      have hq : ∀ a b, on q a = some b → on (q ++ [o]) a = some b := fun a b h => by
        have := (on_some h).1
        rw [on_app, if_pos this]
        exact h
      refine ⟨q, mats_mem.mpr ⟨hql, fun a a' b h h' => hi a a' b (hq a b h) (hq a' b h'), fun a b h => hg a b (hq a b h)⟩, List.mem_map.mpr ⟨o, ?_, rfl⟩⟩
      cases o with
      | none => exact List.mem_cons_self
      | some b =>
        have e : on (q ++ [some b]) q.length = some b := by
          rw [on_app, if_neg (by omega), if_pos rfl]
        refine List.mem_cons_of_mem _ (List.mem_map.mpr ⟨b, ?_, rfl⟩)
        rw [List.mem_filter, List.mem_range, decide_eq_true_eq]
        refine ⟨hg _ b e, fun z => ?_⟩
        obtain ⟨i, hi2⟩ := mem_on.mp z
        have := hi i q.length b (hq i b hi2) e
        have := (on_some hi2).1
        omega
theorem mats_valid {m : Mk} {r : List (Option Nat)} : r ∈ mats m.answers.length m.asks.length ↔ Valid m r := by
  rw [mats_mem]
  exact ⟨fun h => ⟨h.1, h.2.1, h.2.2⟩, fun h => ⟨h.len, h.inj, h.rng⟩⟩
theorem mats_len (nB : Nat) : ∀ k, (mats nB k).length ≤ (nB + 1) ^ k
  | 0 => Nat.le_refl _
  | k + 1 => by
    have ih := mats_len nB k
    have : ∀ (l : List (List (Option Nat))), (l.flatMap fun r => (none :: ((List.range nB).filter fun b => decide (some b ∉ r)).map some).map fun o => r ++ [o]).length ≤ l.length * (nB + 1) := by
      intro l
      induction l with
      | nil => simp
      | cons r l ih =>
        have h := List.length_filter_le (fun b => decide (some b ∉ r)) (List.range nB)
        rw [List.length_range] at h
        simp only [List.flatMap_cons, List.length_append, List.length_map, List.length_cons, Nat.add_mul]
        omega
    rw [mats, Nat.pow_succ]
    exact Nat.le_trans (this _) (Nat.mul_le_mul_right _ ih)
/-- whom each answerer has, by a search -/
def backOf (m : Mk) (r : List (Option Nat)) (b : Nat) : Option Nat := (List.range m.asks.length).find? fun a => decide (on r a = some b)
theorem backOf_iff {m : Mk} {r : List (Option Nat)} (V : Valid m r) {a b : Nat} : backOf m r b = some a ↔ on r a = some b := by
  unfold backOf
  constructor
  · intro h
    have := List.find?_some h
    exact of_decide_eq_true this
  · intro h
    cases e : (List.range m.asks.length).find? fun a => decide (on r a = some b) with
    | some a' =>
      have h1 := List.find?_some e
      have h1 : on r a' = some b := of_decide_eq_true h1
      rw [V.inj a' a b h1 h]
    | none =>
      rw [List.find?_eq_none] at e
      have ha : a < m.asks.length := by
        rw [← V.len]
        exact (on_some h).1
      exact absurd (decide_eq_true h) (e a (by simpa using ha))
/-- whether a pair breaks a matching -/
def brk (m : Mk) (r : List (Option Nat)) (q : Option Nat × Option Nat) : Bool := match q with
  | (none, none) => false
  | (none, some b) => match backOf m r b with
    | none => false
    | some a => decide (a ∉ m.ans b)
  | (some a, none) => match on r a with
    | none => false
    | some b => decide (b ∉ m.ask a)
  | (some a, some b) => decide (rather (m.ask a) b (on r a)) && decide (rather (m.ans b) a (backOf m r b))
/-- all that can break one -/
def prs (nA nB : Nat) : List (Option Nat × Option Nat) := ((List.range nB).map fun b => (none, some b)) ++ (List.range nA).flatMap fun a => (some a, none) :: (List.range nB).map fun b => (some a, some b)
def stdB (m : Mk) (r : List (Option Nat)) : Bool := (prs m.asks.length m.answers.length).all fun q => !brk m r q
theorem prs_mem {nA nB : Nat} {q : Option Nat × Option Nat} : q ∈ prs nA nB ↔ (∃ b, b < nB ∧ q = (none, some b)) ∨ ∃ a, a < nA ∧ (q = (some a, none) ∨ ∃ b, b < nB ∧ q = (some a, some b)) := by
  unfold prs
  simp only [List.mem_append, List.mem_map, List.mem_flatMap, List.mem_cons, List.mem_range]
  constructor
  · rintro (⟨b, h, rfl⟩ | ⟨a, h, rfl | ⟨b, h2, rfl⟩⟩)
    · exact .inl ⟨b, h, rfl⟩
    · exact .inr ⟨a, h, .inl rfl⟩
    · exact .inr ⟨a, h, .inr ⟨b, h2, rfl⟩⟩
  · rintro (⟨b, h, rfl⟩ | ⟨a, h, rfl | ⟨b, h2, rfl⟩⟩)
    · exact .inl ⟨b, h, rfl⟩
    · exact .inr ⟨a, h, .inl rfl⟩
    · exact .inr ⟨a, h, .inr ⟨b, h2, rfl⟩⟩
theorem stdB_iff {m : Mk} (ok : m.Ok) {r : List (Option Nat)} (V : Valid m r) : stdB m r = true ↔ Steady m r := by
  unfold stdB
  simp only [List.all_eq_true, Bool.not_eq_true']
  constructor
  · intro h
    have hA : ∀ a b, on r a = some b → a < m.asks.length := fun a b e => by
      rw [← V.len]
      exact (on_some e).1
    refine ⟨V.len, V.inj, fun a b e => ?_, fun a b e => ?_, fun a b w hab => ?_⟩
    · have := h (some a, none) (prs_mem.mpr (.inr ⟨a, hA a b e, .inl rfl⟩))
      unfold brk at this
      simp only [e] at this
      exact Classical.not_not.mp (of_decide_eq_false this)
    · have := h (none, some b) (prs_mem.mpr (.inl ⟨b, V.rng a b e, rfl⟩))
      unfold brk at this
      simp only [(backOf_iff V).mpr e] at this
      exact Classical.not_not.mp (of_decide_eq_false this)
    · have := h (some a, some b) (prs_mem.mpr (.inr ⟨a, ok.ans_lt hab, .inr ⟨b, ok.ask_lt w.1, rfl⟩⟩))
      unfold brk at this
      simp only [decide_eq_true w, Bool.true_and] at this
      have h2 := of_decide_eq_false this
      cases e : backOf m r b with
      | none =>
        rw [e] at h2
        exact absurd ⟨hab, fun z w => nomatch w⟩ h2
      | some a' =>
        rw [e] at h2
        exact ⟨a', (backOf_iff V).mp e, h2⟩
  · intro S q hq
    rcases prs_mem.mp hq with ⟨b, hb, rfl⟩ | ⟨a, ha, rfl | ⟨b, hb, rfl⟩⟩
    · unfold brk
      simp only
      cases e : backOf m r b with
      | none => rfl
      | some a => exact decide_eq_false fun z => z (S.irb a b ((backOf_iff V).mp e))
    · unfold brk
      simp only
      cases e : on r a with
      | none => rfl
      | some b => exact decide_eq_false fun z => z (S.ira a b e)
    · unfold brk
      simp only
      by_cases w : rather (m.ask a) b (on r a)
      · rw [decide_eq_true w, Bool.true_and]
        refine decide_eq_false fun z => ?_
        obtain ⟨a', h1, h2⟩ := S.nob a b w z.1
        rw [(backOf_iff V).mpr h1] at z
        exact h2 z
      · rw [decide_eq_false w, Bool.false_and]
/-- all steady ones, ascending -/
def allS (m : Mk) : List (List (Option Nat)) := (mats m.answers.length m.asks.length).filter fun r => stdB m r
theorem allS_mem {m : Mk} (ok : m.Ok) {r : List (Option Nat)} : r ∈ allS m ↔ Steady m r := by
  unfold allS
  rw [List.mem_filter, mats_valid]
  constructor
  · exact fun ⟨V, h⟩ => (stdB_iff ok V).mp h
  · exact fun S => ⟨S.valid ok, (stdB_iff ok (S.valid ok)).mpr S⟩
/-- the ring market -/
def ringM (n : Nat) : Mk := ⟨(List.range n).map fun a => (List.range n).map fun s => (a + s) % n, (List.range n).map fun b => (List.range n).map fun s => (b + 1 + s) % n⟩
theorem ring2 : (allS (ringM 2)).length = 2 := by decide +kernel
theorem ring3 : (allS (ringM 3)).length = 3 := by decide +kernel
theorem ring4 : (allS (ringM 4)).length = 4 := by decide +kernel
end Mkt
set_option Elab.async false
set_option linter.all false
set_option maxRecDepth 100000
set_option maxHeartbeats 4000000
namespace LawN
open Dn Mkt PySem PySem.Spec PyProof.Rows L2

theorem m_is_whole {i : Int} {p : Pen} : d_is_whole [.int i] p = some (.bl true, p) := eq_of_W (by
  unfold d_is_whole
  simp [w_fnD, s_is_whole])
theorem m_is_index {i m : Int} {p : Pen} : d_is_index [.int i, .int m] p = some (.bl (decide (0 ≤ i ∧ i < m)), p) := eq_of_W (by
  unfold d_is_index
  simp [w_fnD, s_is_index, W_eq m_is_whole]
  omega)
theorem m_is_list {w : Nat} {L : List Nat} {p : Pen} (hd : L.Nodup) (hl : ∀ x ∈ L, x < w) (hs : L.length ≤ 1000) : d_is_list [.int w, nT L] p = some (.bl true, p) := eq_of_W (by
  unfold d_is_list
  simp [w_fnD, s_is_list]
  refine ⟨le_size (by omega), ?_⟩
  refine comp_all (fun _ => .bl true) (fun x hx => ?_) ?_
  · have := hl x hx
    simp [W_eq m_is_index]
    omega
  · rw [all_true]
    simp
    refine ⟨le_size (by omega), ?_⟩
    refine comp_all ni (fun x hx => ?_) ?_
    · simp
    · rw [lenK_nat hd]
      simp)
theorem m_need_lists {d : D} {w : Nat} {Ls : List (List Nat)} {p : Pen} (h1 : 1 ≤ Ls.length) (h4 : Ls.length ≤ 4) (hw : w ≤ 1000) (h : ∀ L ∈ Ls, L.Nodup ∧ ∀ x ∈ L, x < w) : d_need_lists [d, LT Ls, .int w] p = some (.non, p) := eq_of_W (by
  have e1 : (1 : Int) ≤ Ls.length := by omega
  have e2 : (Ls.length : Int) ≤ 4 := by omega
  unfold d_need_lists
  simp [w_fnD, s_need_lists]
  simp [e1, e2]
  refine ⟨le_size (by omega), ?_⟩
  refine comp_all (fun _ => .bl true) (fun L hL => ?_) ?_
  · have hl := h L hL
    have : L.length ≤ w := by
      have := List.Nodup.length_le_of_subset (l₂ := List.range w) hl.1 fun x hx => by simpa using hl.2 x hx
      simpa using this
    simp [W_eq (m_is_list (w := w) hl.1 hl.2 (by omega))]
  · rw [all_true]
    simp)
structure MOk (m : Mk) : Prop where
  ok : m.Ok
  a1 : 1 ≤ m.asks.length
  a4 : m.asks.length ≤ 4
  b1 : 1 ≤ m.answers.length
  b4 : m.answers.length ≤ 4
def mkD (m : Mk) : D := .ins "Market" [("asks", LT m.asks), ("answers", LT m.answers)]
theorem m_init {m : Mk} {p : Pen} (h : MOk m) : d_Market___init__ [LT m.asks, LT m.answers] p = some ([("asks", LT m.asks), ("answers", LT m.answers)], p) := eq_of_W (by
  have h4 := h.a4
  have h5 := h.b4
  unfold d_Market___init__
  simp [w_ini, s_Market___init__]
  have e1 := @m_need_lists (.str "asks") m.answers.length m.asks p h.a1 h.a4 (by omega) h.ok.na
  have e2 := @m_need_lists (.str "answers") m.asks.length m.answers p h.b1 h.b4 (by omega) h.ok.nb
  simp [W_eq e1, W_eq e2, kFld, Cell.isObj, putS, kIni])
theorem m_made {m : Mk} {p : Pen} (h : MOk m) : d__law_made_market [.tup [LT m.asks, LT m.answers]] p = some (mkD m, p) := eq_of_W (by
  unfold d__law_made_market
  simp [w_fnD, s__law_made_market, W_eq (m_init h)]
  rfl)
@[simp] theorem f_asks (m : Mk) : gFld "asks" (mkD m) = some (LT m.asks) := rfl
@[simp] theorem f_answers (m : Mk) : gFld "answers" (mkD m) = some (LT m.answers) := rfl
theorem MOk.turn {m : Mk} (h : MOk m) : MOk m.turn := ⟨h.ok.turn, h.b1, h.b4, h.a1, h.a4⟩
theorem m_turned_sides {m : Mk} {p : Pen} (h : MOk m) : d_turned_sides [mkD m] p = some (mkD m.turn, p) := eq_of_W (by
  have e : d_Market___init__ [LT m.answers, LT m.asks] p = some ([("asks", LT m.answers), ("answers", LT m.asks)], p) := m_init (m := m.turn) h.turn
  unfold d_turned_sides
  simp [w_fnD, s_turned_sides, W_eq e]
  rfl)
theorem m_would_rather {L : List Nat} {x : Nat} {y : Option Nat} {p : Pen} : d_would_rather [nT L, ni x, oD y] p = some (.bl (decide (rather L x y)), p) := eq_of_W (by
  unfold d_would_rather
  by_cases hx : x ∈ L
  · cases y with
    | none =>
      have : rather L x none := ⟨hx, fun z e => nomatch e⟩
      simp [w_fnD, s_would_rather, notin_nT, hx, this]
    | some z =>
      by_cases hz : z ∈ L
      · have : rather L x (some z) ↔ L.idxOf x < L.idxOf z := by
          constructor
          · intro h
            rcases h.2 z rfl with k | k
            · exact absurd hz k
            · exact k
          · exact fun h => ⟨hx, fun w e => by cases e; exact .inr h⟩
        simp [w_fnD, s_would_rather, notin_nT, hx, hz, index_nT hx, index_nT hz, this]
      · have : rather L x (some z) := ⟨hx, fun w e => by cases e; exact .inl hz⟩
        simp [w_fnD, s_would_rather, notin_nT, hx, hz, this]
  · have : ¬rather L x y := fun h => hx h.1
    simp [w_fnD, s_would_rather, notin_nT, hx, this])
theorem m_refused_by {m : Mk} {b a : Nat} {k : Option Nat} {p : Pen} (hb : b < m.answers.length) : d_refused_by [mkD m, ni b, oD k, ni a] p = some (if rather (m.ans b) a k then oD k else ni a, p) := eq_of_W (by
  have e := @m_would_rather (m.ans b) a k p
  unfold d_refused_by
  have e1 : gIx (LT m.answers) (ni b) = some (nT (m.ans b)) := ix_LT hb
  simp [w_fnD, s_refused_by, e1, W_eq e]
  by_cases h : rather (m.ans b) a k <;> simp [h])
end LawN
set_option Elab.async false
set_option linter.all false
set_option maxRecDepth 100000
set_option maxHeartbeats 4000000
namespace LawN
open Dn Mkt PySem PySem.Spec PyProof.Rows L2

noncomputable def askBody : DS :=
  (sSeq (sOwn 4 (lComp [6] (bNm 6) (tCmp gNotIn (eVar 6) (eVb 2)) (eVar 6) (iRng1 (eCall (g1 gLen) (lCons (eUn (gFld "asks") (eVar 0)) lNil)))))
  (sSeq (sFz 4 (sOwn 5 (lComp [6] (bNm 6) (tCmp gLt (eBin gIx (eVb 1) (eVar 6)) (eCall (g1 gLen) (lCons (eBin gIx (eUn (gFld "asks") (eVar 0)) (eVar 6)) lNil))) (eVar 6) (iSeq (eVar 4)))))
  (sSeq (sIf (tNot (tE (eVb 5)))
  (sSeq sBrk
  sSkip)
  sSkip)
  (sSeq (sSet 6 (eBin gIx (eVb 5) (eC (.int 0))))
  (sSeq (sSet 7 (eBin gIx (eBin gIx (eUn (gFld "asks") (eVar 0)) (eVar 6)) (eBin gIx (eVb 1) (eVar 6))))
  (sSeq (sAsg (eBin gAdd (eBin gIx (eVb 1) (eVar 6)) (eC (.int 1))) (pIx 1 (eVar 6)))
  (sSeq (sSet 8 (eFn 4 d_refused_by (lCons (eVar 0) (lCons (eVar 7) (lCons (eBin gIx (eVb 2) (eVar 7)) (lCons (eVar 6) lNil))))))
  (sSeq (sApp 3 (eTup (lCons (eVar 6) (lCons (eVar 7) (lCons (eVar 8) lNil)))))
  (sSeq (sIf (tCmp gNe (eVar 8) (eVar 6))
  (sSeq (sAsg (eVar 6) (pIx 2 (eVar 7)))
  sSkip)
  sSkip)
  sSkip)))))))))
theorem s_asking_by_cut : s_asking_by = (sSeq (sPar [1, 2, 3] (ksCons (kOw (lRep (eLst (lDisp (lCons (eC (.int 0)) lNil))) (eCall (g1 gLen) (lCons (eUn (gFld "asks") (eVar 0)) lNil)))) (ksCons (kOw (lRep (eLst (lDisp (lCons (eC .non) lNil))) (eCall (g1 gLen) (lCons (eUn (gFld "answers") (eVar 0)) lNil)))) (ksCons (kOw (lDisp lNil)) ksNil))))
  (sSeq (sWhile (tE (eC (.bl true)))
  askBody)
  (sSeq (sOwn 9 (lComp [6] (bNm 6) tYes (eIf (tCmp gIn (eVar 6) (eVb 2)) (eMz gIndex (eVb 2) (lCons (eVar 6) lNil)) (eC .non)) (iRng1 (eCall (g1 gLen) (lCons (eUn (gFld "asks") (eVar 0)) lNil)))))
  (sSeq (sRet (eTup (lCons (eCall (g1 gTup) (lCons (eVb 3) lNil)) (lCons (eCall (g1 gTup) (lCons (eVb 9) lNil)) lNil))))
  sSkip)))) := rfl

theorem sum_set : ∀ {l : List Nat} {i : Nat}, i < l.length → (l.set i (l.getD i 0 + 1)).sum = l.sum + 1
  | [], i, h => by simp at h
  | x :: l, 0, h => by simp; omega
  | x :: l, i + 1, h => by
    have := sum_set (l := l) (i := i) (by simpa using h)
    simp only [List.set_cons_succ, List.sum_cons, List.getD_cons_succ, this]
    omega
theorem sum_le : ∀ {a b : List Nat}, a.length = b.length → (∀ i, a.getD i 0 ≤ b.getD i 0) → a.sum ≤ b.sum
  | [], [], _, _ => Nat.le_refl _
  | x :: a, y :: b, h, k => by
    have h0 := k 0
    have := sum_le (a := a) (b := b) (by simpa using h) fun i => by simpa using k (i + 1)
    simp at h0 ⊢
    omega
  | [], _ :: _, h, _ => by simp at h
  | _ :: _, [], h, _ => by simp at h
/-- all that may be asked -/
def tot (m : Mk) : Nat := (m.asks.map List.length).sum
theorem Inv.sum {m : Mk} {asked : List Nat} {kept : List (Option Nat)} (I : Inv m asked kept) : asked.sum ≤ tot m := by
  refine sum_le (by rw [I.la, List.length_map]) fun i => ?_
  have := I.le i
  have e : (m.asks.map List.length).getD i 0 = (m.ask i).length := by
    unfold Mk.ask
    by_cases h : i < m.asks.length
    · rw [List.getD_eq_getElem?_getD, List.getElem?_map, List.getD_eq_getElem?_getD, List.getElem?_eq_getElem h]
      rfl
    · rw [getD_out (by simp; omega), getD_out (by omega)]
      rfl
  rw [e]
  exact this
theorem tot_le {m : Mk} (h : MOk m) : tot m ≤ 16 := by
  have : ∀ (l : List (List Nat)), (∀ L ∈ l, L.length ≤ 4) → (l.map List.length).sum ≤ 4 * l.length := by
    intro l
    induction l with
    | nil => intro _; exact Nat.le_refl _
    | cons x l ih =>
      intro hl
      have := ih fun L hL => hl L (List.mem_cons_of_mem _ hL)
      have := hl x List.mem_cons_self
      simp
      omega
  have k := this m.asks fun L hL => by
    have h1 := h.ok.na L hL
    have := List.Nodup.length_le_of_subset (l₂ := List.range m.answers.length) h1.1 fun x hx => by simpa using h1.2 x hx
    have := h.b4
    simp at *
    omega
  have := h.a4
  unfold tot
  omega
def sumD (xs : List D) : Nat := (xs.map fun d => match d with | .int i => i.toNat | _ => 0).sum
theorem sumD_ni (l : List Nat) : sumD (l.map ni) = l.sum := by
  induction l with
  | nil => rfl
  | cons x l ih =>
    unfold sumD at ih ⊢
    simp only [List.map_cons, List.sum_cons, ih]
    simp
theorem ix_own {l : List Nat} {i : Nat} (h : i < l.length) : gIx (.lst (l.map ni)) (.int i) = some (ni (l.getD i 0)) := by
  rw [List.getD_eq_getElem?_getD, List.getElem?_eq_getElem h]
  exact ix_map h
theorem ix_kept {l : List (Option Nat)} {i : Nat} (h : i < l.length) : gIx (.lst (l.map oD)) (.int i) = some (oD (on l i)) := by
  unfold on
  rw [List.getD_eq_getElem?_getD, List.getElem?_eq_getElem h]
  exact ix_map h
theorem ixN_nat {n i : Nat} (h : i < n) : ixN n (i : Int) = some i := by
  unfold ixN
  rw [if_pos (Int.natCast_nonneg i), if_pos (by omega)]
  simp
theorem ix_ask {m : Mk} {a : Nat} (h : a < m.asks.length) : gIx (LT m.asks) (.int a) = some (nT (m.ask a)) := ix_LT h
theorem ix_ans {m : Mk} {a : Nat} (h : a < m.answers.length) : gIx (LT m.answers) (.int a) = some (nT (m.ans a)) := ix_LT h
theorem ask_body {m : Mk} (h : MOk m) {asked : List Nat} {kept : List (Option Nat)} (I : Inv m asked kept) {fs : List D} (hf : fs.length = asked.sum) {p : Pen} {c4 c5 c6 c7 c8 c9 : Cell} :
    W (askBody [.sh (mkD m), .own (asked.map ni), .own (kept.map oD), .own fs, c4, c5, c6, c7, c8, c9] p) fun o p' => p' = p ∧
      ((∃ e4 e5 e6 e7 e8 e9 : Cell, o = .bk [.sh (mkD m), .own (asked.map ni), .own (kept.map oD), .own fs, e4, e5, e6, e7, e8, e9] ∧ Done m asked kept) ∨
       ∃ (asked' : List Nat) (kept' : List (Option Nat)) (fs' : List D) (e4 e5 e6 e7 e8 e9 : Cell), o = .nx [.sh (mkD m), .own (asked'.map ni), .own (kept'.map oD), .own fs', e4, e5, e6, e7, e8, e9] ∧ Inv m asked' kept' ∧ fs'.length = asked'.sum ∧ asked'.sum = asked.sum + 1) := by
  have h4 := h.a4
  have e3 := rng_n (n := m.asks.length) (by omega)
  unfold askBody
  simp [w_rng1, e3]
  refine ⟨le_size (by omega), ?_⟩
  refine comp_map (fun a => decide (some a ∉ kept)) ni (fun a ha => ?_) ?_
  · have := notin_mapL oD_inj (pl_oD 15) (some a) kept
    simp at this
    refine ⟨_, rfl, ?_, fun _ => by simp⟩
    simp [this]
  · simp [frz1]
    have hfl : ∀ k : Nat → Bool, ((List.range m.asks.length).filter k).length ≤ m.asks.length := fun k => by
      have := List.length_filter_le k (List.range m.asks.length)
      simpa using this
    refine ⟨le_size (by have := hfl (fun a => !decide (some a ∈ kept)); omega), ?_⟩
    refine comp_map (fun a => decide (asked.getD a 0 < (m.ask a).length)) ni (fun a ha => ?_) ?_
    · have ha : a < m.asks.length := by
        have := (List.mem_filter.mp ha).1
        simpa using this
      have g1 := ix_own (l := asked) (i := a) (by rw [I.la]; exact ha)
      have g2 := ix_ask ha
      refine ⟨_, rfl, ?_, fun _ => by simp⟩
      simp only [w_cmp, w_bin, w_vb, w_var, k_b1, k_c1, a_at_s, a_at_0, List.set_cons_succ, List.set_cons_zero, Ok_some, w_call, w_lCons, k_lc, w_lNil, w_un, a_g1, f_asks, g1, g2, len_nT, i_lt]
      exact ⟨decide_eq_decide.mpr (by omega), trivial⟩
    · cases hop : ((List.range m.asks.length).filter fun a => !decide (some a ∈ kept)).filter fun a => decide (asked.getD a 0 < (m.ask a).length) with
      | nil =>
        have hD : Done m asked kept := fun a ha hal => by
          have hn : some a ∉ kept := fun z => hal _ (on_idx z)
          have : a ∉ ((List.range m.asks.length).filter fun a => !decide (some a ∈ kept)).filter fun a => decide (asked.getD a 0 < (m.ask a).length) := by
            rw [hop]
            simp
          simp only [List.mem_filter, List.mem_range, ha, hn, decide_false, Bool.not_false, and_self, true_and, decide_eq_true_eq] at this
          have := I.le a
          omega
        simp [D.tru]
        exact hD
      | cons a r =>
        have hmem : a ∈ ((List.range m.asks.length).filter fun a => !decide (some a ∈ kept)).filter fun a => decide (asked.getD a 0 < (m.ask a).length) := by
          rw [hop]
          exact List.mem_cons_self
        simp only [List.mem_filter, List.mem_range, decide_eq_true_eq] at hmem
        obtain ⟨⟨ha, hal⟩, hlt⟩ := hmem
        have hal : some a ∉ kept := by simpa using hal
        have alone : ∀ c, on kept c ≠ some a := fun c z => hal (on_some z).2
        have hb : (m.ask a)[asked.getD a 0]? = some ((m.ask a)[asked.getD a 0]) := List.getElem?_eq_getElem hlt
        have hbl : (m.ask a)[asked.getD a 0] < m.answers.length := h.ok.ask_lt (List.getElem_mem hlt)
        have I' := step h.ok I alone hb
        generalize hbb : (m.ask a)[asked.getD a 0] = b at hb hbl I'
        have g1 : L2.atI (asked.map ni) (a : Int) = some (ni (asked.getD a 0)) := ix_own (l := asked) (i := a) (by rw [I.la]; exact ha)
        have g2 := ix_ask ha
        have g3 : gIx (nT (m.ask a)) (ni (asked.getD a 0)) = some (ni b) := by
          rw [← hbb]
          exact ix_nT hlt
        have g4 := ixN_nat (n := (asked.map ni).length) (i := a) (by rw [List.length_map, I.la]; exact ha)
        have g5 : L2.atI (kept.map oD) (b : Int) = some (oD (on kept b)) := ix_kept (l := kept) (i := b) (by rw [I.lk]; exact hbl)
        have g6 := @m_refused_by m b a (on kept b) p hbl
        have g7 : ixN kept.length (b : Int) = some b := ixN_nat (by rw [I.lk]; exact hbl)
        have hs := sum_set (l := asked) (i := a) (by rw [I.la]; exact ha)
        have ht := tot_le h
        have hsum := Inv.sum I
        have g8 : gAdd (ni (asked.getD a 0)) (.int 1) = some (ni (asked.getD a 0 + 1)) := by simp
        generalize hj : asked.getD a 0 = j at *
        have fin : ∀ (kept' : List (Option Nat)) (fs' : List D), fs'.length = fs.length + 1 → kept' = (if rather (m.ans b) a (on kept b) then kept.set b (some a) else kept) → Mkt.Inv m (asked.set a (j + 1)) kept' ∧ fs'.length = (asked.set a (j + 1)).sum ∧ (asked.set a (j + 1)).sum = asked.sum + 1 := fun kept' fs' h1 h2 => ⟨by rw [h2]; exact I', by rw [hs, h1, hf], hs⟩
        have e1 : (asked.map ni).set a (ni (j + 1)) = (asked.set a (j + 1)).map ni := by rw [List.map_set]
        have e2 : (kept.map oD).set b (ni a) = (kept.set b (some a)).map oD := by rw [List.map_set]; rfl
        have eb : D.tru (.lst (ni a :: r.map ni)) = some true := rfl
        have w1 : ∀ (c0 : Cell) (cs : List Cell) (xs : List D) (d : D) (f : DE) (q : Pen) QE, W (pIx 1 f d (c0 :: .own xs :: cs) q) QE ↔ W (f (c0 :: .own xs :: cs) q) (kPx (c0 :: .own xs :: cs) 1 QE xs d) := fun c0 cs xs d f q QE => w_pIx f _ q 1 QE d xs rfl
        have w2 : ∀ (c0 c1 : Cell) (cs : List Cell) (xs : List D) (d : D) (f : DE) (q : Pen) QE, W (pIx 2 f d (c0 :: c1 :: .own xs :: cs) q) QE ↔ W (f (c0 :: c1 :: .own xs :: cs) q) (kPx (c0 :: c1 :: .own xs :: cs) 2 QE xs d) := fun c0 c1 cs xs d f q QE => w_pIx f _ q 2 QE d xs rfl
        simp only [k_own, List.set_cons_succ, List.set_cons_zero, k_seq0, w_seq, w_if, w_not, w_tE, w_vb, a_at_s, a_at_0, Ok_some, List.map_cons, eb, k_if, Bool.not_true, Bool.false_eq_true, false_implies, true_and, w_skip]
        simp only [w_set, w_bin, w_vb, w_var, w_c, w_un, k_b1, k_set, a_at_s, a_at_0, Ok_some, ix_lst, atI_0, f_asks, g2, g1, g3, g8, List.set_cons_succ, List.set_cons_zero, k_seq0, w_asg, k_asg, w1, w2, k_px, g4, e1, w_seq, w_fn, w_lCons, k_lc, w_lNil, k_fn, g5, W_eq g6]
        refine fun _ => ⟨rfl, ?_⟩
        by_cases hr : rather (m.ans b) a (on kept b)
        · have gn : gNe (oD (on kept b)) (ni a) = some true := by
            rw [ne_pl (pl_oD 16 _) (pl_int 16 _)]
            have : oD (on kept b) ≠ ni a := fun z => alone b (oD_inj _ (some a) z)
            simp [this]
          rw [if_pos hr] at fin
          simp only [if_pos hr]
          generalize oD (on kept b) = d at gn
          simp [kApp, Cell.isOwn, gn, w2, g7]
          refine ⟨le_size (by omega), lt_size (by omega), asked.set a (j + 1), kept.set b (some a), fs ++ [D.tup [ni a, ni b, d]], ⟨e1, e2, rfl⟩, (fin _ (fs ++ [D.tup [ni a, ni b, d]]) (by simp) rfl).1, by rw [hs]; simp [hf], hs⟩
        · have gn : gNe (ni a) (ni a) = some false := by
            rw [ne_pl (pl_int 16 _) (pl_int 16 _)]
            simp
          rw [if_neg hr] at fin
          simp only [if_neg hr]
          simp [kApp, Cell.isOwn]
          refine ⟨le_size (by omega), lt_size (by omega), asked.set a (j + 1), kept, fs ++ [D.tup [ni a, ni b, ni a]], ⟨e1, rfl, rfl⟩, (fin _ (fs ++ [D.tup [ni a, ni b, ni a]]) (by simp) rfl).1, by rw [hs]; simp [hf], hs⟩
end LawN
set_option Elab.async false
set_option linter.all false
set_option maxRecDepth 100000
set_option maxHeartbeats 4000000
namespace LawN
open Dn Mkt PySem PySem.Spec PyProof.Rows L2

theorem rep_ok {x : D} {n : Nat} (h : n ≤ 1000) : repD (.lst [x]) (.int n) = some (List.replicate n x) := by
  unfold repD
  have c : -(2 ^ 63) ≤ (n : Int) ∧ (n : Int) < 2 ^ 63 ∧ [x].length * (n : Int).toNat ≤ sizeLine := ⟨Int.le_trans (by decide) (Int.natCast_nonneg n), Int.lt_of_lt_of_le (Int.ofNat_lt.mpr (show n < 1000000 by omega)) (by decide), by
    rw [List.length_singleton, Nat.one_mul, Int.toNat_natCast]
    exact le_size (by omega)⟩
  simp only
  rw [if_pos c, Int.toNat_natCast]
  congr 1
  clear c h
  induction n with
  | zero => rfl
  | succ n ih => rw [List.replicate_succ, List.flatten_cons, ih]; rfl
theorem W_asking_by {m : Mk} (h : MOk m) {p : Pen} {Q : D → Pen → Prop} (k : ∀ f mu, Best m mu → Q (.tup [f, oT mu]) p) : W (d_asking_by [mkD m] p) Q := by
  have h4 := h.a4
  have h5 := h.b4
  have ht := tot_le h
  unfold d_asking_by
  rw [w_fnD]
  refine ⟨rfl, ?_⟩
  rw [s_asking_by_cut]
  have e1 := rep_ok (x := .int 0) (n := m.asks.length) (by omega)
  have e2 := rep_ok (x := .non) (n := m.answers.length) (by omega)
  simp [e1, e2, setAll]
  refine ⟨le_size (by omega), ?_⟩
  have r1 : List.replicate m.asks.length (D.int 0) = (List.replicate m.asks.length 0).map ni := by rw [List.map_replicate]; rfl
  have r2 : List.replicate m.answers.length D.non = (List.replicate m.answers.length none).map oD := by rw [List.map_replicate]; rfl
  rw [r1, r2]
  refine while_inv (fun ρ p' => p' = p ∧ ∃ (asked : List Nat) (kept : List (Option Nat)) (fs : List D) (c4 c5 c6 c7 c8 c9 : Cell), ρ = [.sh (mkD m), .own (asked.map ni), .own (kept.map oD), .own fs, c4, c5, c6, c7, c8, c9] ∧ Mkt.Inv m asked kept ∧ fs.length = asked.sum)
    (fun ρ => match ρ.at 1 with | .own xs => tot m - sumD xs | _ => 0) ⟨rfl, _, _, [], _, _, _, _, _, _, rfl, start m, by simp⟩ fun ρ p' hI => ?_
  obtain ⟨rfl, asked, kept, fs, c4, c5, c6, c7, c8, c9, rfl, I, hf⟩ := hI
  rw [w_tE, w_c, tru_bl, Ok_some]
  refine ⟨fun z => Bool.noConfusion z, fun _ => ?_⟩
  refine (ask_body h I hf).mono fun o p'' ho => ?_
  obtain ⟨rfl, ho⟩ := ho
  rcases ho with ⟨e4, e5, e6, e7, e8, e9, rfl, hD⟩ | ⟨asked', kept', fs', e4, e5, e6, e7, e8, e9, rfl, I', hf', hs⟩
  · refine .inr (.inl ⟨_, rfl, ?_⟩)
    have e3 := rng_n (n := m.asks.length) (by omega)
    have hsum := Inv.sum I
    simp [w_rng1, e3]
    refine ⟨le_size (by omega), ?_⟩
    refine comp_all (fun a => oD (if some a ∈ kept then some (kept.idxOf (some a)) else none)) (fun a ha => ?_) ?_
    · have h1 : gIn (ni a) (.lst (kept.map oD)) = some (decide (some a ∈ kept)) := in_mapL oD_inj (pl_oD 15) (some a) kept
      refine ⟨_, rfl, ?_⟩
      by_cases hm : some a ∈ kept
      · have h2 : gIndex (.lst (kept.map oD)) [ni a] = some (.int (kept.idxOf (some a))) := index_map oD_inj (pl_oD 15) (.inl rfl) hm
        simp [h1, hm, h2]
      · simp [h1, hm]
    · have e : (List.range m.asks.length).map (fun a => oD (if some a ∈ kept then some (kept.idxOf (some a)) else none)) = (ends m.asks.length kept).map oD := by
        unfold ends
        rw [List.map_map]
        rfl
      rw [e]
      simp
      exact ⟨le_size (by omega), k (.tup fs) _ ⟨asked, kept, I, hD, rfl⟩⟩
  · refine .inl ⟨_, .inl rfl, ⟨rfl, asked', kept', fs', _, _, _, _, _, _, rfl, I', hf'⟩, ?_⟩
    have := Inv.sum I'
    show tot m - sumD (asked'.map ni) < tot m - sumD (asked.map ni)
    rw [sumD_ni, sumD_ni]
    omega
theorem W_asked_by {m : Mk} (h : MOk m) {p : Pen} {Q : D → Pen → Prop} (k : ∀ mu, Best m mu → Q (oT mu) p) : W (d_asked_by [mkD m] p) Q := by
  unfold d_asked_by
  simp [w_fnD, s_asked_by]
  refine W_asking_by h fun f mu hb => ?_
  simp
  exact k mu hb
theorem W_asked_best {m : Mk} (h : MOk m) {p : Pen} {Q : D → Pen → Prop} (k : ∀ mu, Best m mu → Q (oT mu) p) : W (d_asked_best [mkD m] p) Q := by
  unfold d_asked_best
  simp [w_fnD, s_asked_best]
  exact W_asked_by h k
/-- turned: whom each one of the other side has -/
theorem W_turned_by {m : Mk} (h : MOk m) {mu : List (Option Nat)} (S : Steady m mu) {p : Pen} {Q : D → Pen → Prop} (k : ∀ nu, Back m.answers.length mu nu → Q (oT nu) p) : W (d_turned_by [mkD m, oT mu] p) Q := by
  have h4 := h.a4
  have h5 := h.b4
  have e2 := rep_ok (x := .non) (n := m.answers.length) (by omega)
  have r2 : List.replicate m.answers.length D.non = (List.replicate m.answers.length none).map oD := by rw [List.map_replicate]; rfl
  unfold d_turned_by oT
  simp [w_fnD, s_turned_by, e2]
  refine ⟨le_size (by omega), ?_⟩
  rw [r2]
  refine W_forE (fun done ρ p' => p' = p ∧ ∃ (f : List (Option Nat)) (c3 c4 : Cell), ρ = [.sh (mkD m), .sh (.tup (mu.map oD)), .own (f.map oD), c3, c4] ∧ f.length = m.answers.length ∧ ∀ a b, on f b = some a ↔ (a < done.length ∧ on mu a = some b)) ⟨rfl, _, _, _, rfl, by simp, fun a b => ?_⟩ (fun done x rest ρ p' e hI => ?_) ?_
  · have : on (List.replicate m.answers.length none) b = none := by
      unfold on
      by_cases hb : b < m.answers.length
      · rw [List.getD_eq_getElem?_getD, List.getElem?_replicate, if_pos hb]
        rfl
      · exact getD_out (by simp; omega)
    rw [this]
    simp
  · obtain ⟨rfl, f, c3, c4, rfl, hl, hf⟩ := hI
    have hx : on mu done.length = x := by
      unfold on
      rw [List.getD_eq_getElem?_getD, e]
      simp
    cases x with
    | none =>
      simp
      refine ⟨f, rfl, hl, fun a b => ?_⟩
      rw [hf]
      constructor
      · exact fun ⟨h1, h2⟩ => ⟨by omega, h2⟩
      · rintro ⟨h1, h2⟩
        refine ⟨?_, h2⟩
        by_cases ha : a = done.length
        · rw [ha, hx] at h2
          cases h2
        · omega
    | some b0 =>
      have hb0 : b0 < f.length := by
        rw [hl]
        exact h.ok.ask_lt (S.ira _ _ hx)
      have g7 : ixN f.length (b0 : Int) = some b0 := ixN_nat hb0
      have e2 : (f.map oD).set b0 (ni done.length) = (f.set b0 (some done.length)).map oD := by rw [List.map_set]; rfl
      have w2 : ∀ (c0 c1 : Cell) (cs : List Cell) (xs : List D) (d : D) (f : DE) (q : Pen) QE, W (pIx 2 f d (c0 :: c1 :: .own xs :: cs) q) QE ↔ W (f (c0 :: c1 :: .own xs :: cs) q) (kPx (c0 :: c1 :: .own xs :: cs) 2 QE xs d) := fun c0 c1 cs xs d f q QE => w_pIx f _ q 2 QE d xs rfl
      simp [w2, g7]
      refine ⟨f.set b0 (some done.length), e2, by rw [List.length_set]; exact hl, fun a b => ?_⟩
      rw [on_set hb0]
      by_cases hb : b0 = b
      · subst hb
        rw [if_pos rfl]
        constructor
        · intro z
          cases z
          exact ⟨by omega, hx⟩
        · rintro ⟨h1, h2⟩
          rw [S.inj _ _ _ h2 hx]
      · rw [if_neg hb, hf]
        constructor
        · exact fun ⟨h1, h2⟩ => ⟨by omega, h2⟩
        · rintro ⟨h1, h2⟩
          refine ⟨?_, h2⟩
          by_cases ha : a = done.length
          · rw [ha, hx] at h2
            cases h2
            exact absurd rfl hb
          · omega
  · rintro ρ p' ⟨rfl, f, c3, c4, rfl, hl, hf⟩
    simp
    refine k f ⟨hl, fun a b => ?_⟩
    rw [hf]
    constructor
    · exact fun ⟨_, h2⟩ => h2
    · intro h2
      refine ⟨Classical.byContradiction fun z => ?_, h2⟩
      unfold on at h2
      rw [getD_out (by omega)] at h2
      cases h2
theorem W_answered_best {m : Mk} (h : MOk m) {p : Pen} {Q : D → Pen → Prop} (k : ∀ mu nu, Best m.turn mu → Back m.asks.length mu nu → Q (oT nu) p) : W (d_answered_best [mkD m] p) Q := by
  unfold d_answered_best
  simp [w_fnD, s_answered_best]
  unfold d_answered_by
  simp [w_fnD, s_answered_by, W_eq (m_turned_sides h)]
  refine W_asked_by h.turn fun mu hb => ?_
  simp
  refine W_turned_by h.turn (hb.steady h.turn.ok) fun nu hn => ?_
  simp
  exact k mu nu hb hn
end LawN
set_option Elab.async false
set_option linter.all false
set_option maxRecDepth 100000
set_option maxHeartbeats 4000000
namespace LawN
open Dn Mkt PySem PySem.Spec PyProof.Rows L2

/-- turned: whom each one of the other side has -/
theorem m_turned_by {m : Mk} (h : MOk m) {mu : List (Option Nat)} (S : Valid m mu) {p : Pen} : ∃ nu, Back m.answers.length mu nu ∧ d_turned_by [mkD m, oT mu] p = some (oT nu, p) := by
  have h4 := h.a4
  have h5 := h.b4
  have e2 := rep_ok (x := .non) (n := m.answers.length) (by omega)
  have r2 : List.replicate m.answers.length D.non = (List.replicate m.answers.length none).map oD := by rw [List.map_replicate]; rfl
  suffices hW : W (d_turned_by [mkD m, oT mu] p) fun d q => ∃ nu, d = oT nu ∧ q = p ∧ Back m.answers.length mu nu by
    obtain ⟨d, q, e, nu, rfl, rfl, B⟩ := hW
    exact ⟨nu, B, e⟩
  unfold d_turned_by oT
  simp [w_fnD, s_turned_by, e2]
  refine ⟨le_size (by omega), ?_⟩
  rw [r2]
  refine W_forE (fun done ρ p' => p' = p ∧ ∃ (f : List (Option Nat)) (c3 c4 : Cell), ρ = [.sh (mkD m), .sh (.tup (mu.map oD)), .own (f.map oD), c3, c4] ∧ f.length = m.answers.length ∧ ∀ a b, on f b = some a ↔ (a < done.length ∧ on mu a = some b)) ⟨rfl, _, _, _, rfl, by simp, fun a b => ?_⟩ (fun done x rest ρ p' e hI => ?_) ?_
  · have : on (List.replicate m.answers.length none) b = none := by
      unfold on
      by_cases hb : b < m.answers.length
      · rw [List.getD_eq_getElem?_getD, List.getElem?_replicate, if_pos hb]
        rfl
      · exact getD_out (by simp; omega)
    rw [this]
    simp
  · obtain ⟨rfl, f, c3, c4, rfl, hl, hf⟩ := hI
    have hx : on mu done.length = x := by
      unfold on
      rw [List.getD_eq_getElem?_getD, e]
      simp
    cases x with
    | none =>
      simp
      refine ⟨f, rfl, hl, fun a b => ?_⟩
      rw [hf]
      constructor
      · exact fun ⟨h1, h2⟩ => ⟨by omega, h2⟩
      · rintro ⟨h1, h2⟩
        refine ⟨?_, h2⟩
        by_cases ha : a = done.length
        · rw [ha, hx] at h2
          cases h2
        · omega
    | some b0 =>
      have hb0 : b0 < f.length := by
        rw [hl]
        exact S.rng _ _ hx
      have g7 : ixN f.length (b0 : Int) = some b0 := ixN_nat hb0
      have e2 : (f.map oD).set b0 (ni done.length) = (f.set b0 (some done.length)).map oD := by rw [List.map_set]; rfl
      have w2 : ∀ (c0 c1 : Cell) (cs : List Cell) (xs : List D) (d : D) (f : DE) (q : Pen) QE, W (pIx 2 f d (c0 :: c1 :: .own xs :: cs) q) QE ↔ W (f (c0 :: c1 :: .own xs :: cs) q) (kPx (c0 :: c1 :: .own xs :: cs) 2 QE xs d) := fun c0 c1 cs xs d f q QE => w_pIx f _ q 2 QE d xs rfl
      simp [w2, g7]
      refine ⟨f.set b0 (some done.length), e2, by rw [List.length_set]; exact hl, fun a b => ?_⟩
      rw [on_set hb0]
      by_cases hb : b0 = b
      · subst hb
        rw [if_pos rfl]
        constructor
        · intro z
          cases z
          exact ⟨by omega, hx⟩
        · rintro ⟨h1, h2⟩
          rw [S.inj _ _ _ h2 hx]
      · rw [if_neg hb, hf]
        constructor
        · exact fun ⟨h1, h2⟩ => ⟨by omega, h2⟩
        · rintro ⟨h1, h2⟩
          refine ⟨?_, h2⟩
          by_cases ha : a = done.length
          · rw [ha, hx] at h2
            cases h2
            exact absurd rfl hb
          · omega
  · rintro ρ p' ⟨rfl, f, c3, c4, rfl, hl, hf⟩
    simp
    refine ⟨f, rfl, hl, fun a b => ?_⟩
    rw [hf]
    constructor
    · exact fun ⟨_, h2⟩ => h2
    · intro h2
      refine ⟨Classical.byContradiction fun z => ?_, h2⟩
      unfold on at h2
      rw [getD_out (by omega)] at h2
      cases h2
theorem Back.backOf {m : Mk} {r nu : List (Option Nat)} (V : Valid m r) (B : Back m.answers.length r nu) (b : Nat) : on nu b = backOf m r b := by
  have h : ∀ a, on nu b = some a ↔ Mkt.backOf m r b = some a := fun a => (B.iff a b).trans (backOf_iff V).symm
  cases e : on nu b with
  | some a => exact ((h a).mp e).symm
  | none =>
    cases e2 : Mkt.backOf m r b with
    | none => rfl
    | some a =>
      have := (h a).mpr e2
      rw [e] at this
      cases this
theorem ix_oT {l : List (Option Nat)} {i : Nat} (h : i < l.length) : gIx (oT l) (.int i) = some (oD (on l i)) := by
  unfold on
  rw [List.getD_eq_getElem?_getD, List.getElem?_eq_getElem h]
  exact ix_map h
theorem m_is_broken {m : Mk} (h : MOk m) {r : List (Option Nat)} (V : Valid m r) {q : Option Nat × Option Nat} (hq : q ∈ prs m.asks.length m.answers.length) {p : Pen} : d_is_broken [mkD m, oT r, oD q.1, oD q.2] p = some (.bl (brk m r q), p) := eq_of_W (by
  obtain ⟨nu, B, e⟩ := m_turned_by h V (p := p)
  have eb := Back.backOf V B
  unfold d_is_broken
  rw [w_fnD]
  refine ⟨rfl, ?_⟩
  unfold s_is_broken
  rcases prs_mem.mp hq with ⟨b, hb, rfl⟩ | ⟨a, ha, rfl | ⟨b, hb, rfl⟩⟩
  · have g1 := ix_oT (l := nu) (i := b) (by rw [B.len]; exact hb)
    rw [eb] at g1
    have g2 := ix_ans hb
    simp only [oD_some, oD_none]
    unfold brk
    cases hbk : backOf m r b with
    | none =>
      rw [hbk] at g1
      simp [W_eq e, g1, hbk]
    | some a =>
      rw [hbk] at g1
      simp [W_eq e, g1, g2, notin_nT, hbk]
  · have g1 := ix_oT (l := r) (i := a) (by rw [V.len]; exact ha)
    have g2 := ix_ask ha
    simp only [oD_some, oD_none]
    unfold brk
    cases hbk : on r a with
    | none =>
      rw [hbk] at g1
      simp [W_eq e, g1, hbk]
    | some b =>
      rw [hbk] at g1
      simp [W_eq e, g1, g2, notin_nT, hbk]
  · have g1 := ix_oT (l := nu) (i := b) (by rw [B.len]; exact hb)
    rw [eb] at g1
    have g2 := ix_ans hb
    have g3 := ix_oT (l := r) (i := a) (by rw [V.len]; exact ha)
    have g4 := ix_ask ha
    have w1 := @m_would_rather (m.ask a) b (on r a) p
    have w2 := @m_would_rather (m.ans b) a (backOf m r b) p
    simp only [oD_some]
    unfold brk
    by_cases hr : rather (m.ask a) b (on r a)
    · simp [W_eq e, g1, g2, g3, g4, W_eq w1, W_eq w2, hr]
    · simp [W_eq e, g1, g2, g3, g4, W_eq w1, W_eq w2, hr])
def prD (q : Option Nat × Option Nat) : D := .tup [oD q.1, oD q.2]
theorem m_pairs_by {m : Mk} (h : MOk m) {p : Pen} : d_pairs_by [mkD m] p = some (.lst ((prs m.asks.length m.answers.length).map prD), p) := eq_of_W (by
  have h4 := h.a4
  have h5 := h.b4
  have e3 := rng_n (n := m.asks.length) (by omega)
  have e5 := rng_n (n := m.answers.length) (by omega)
  unfold d_pairs_by
  simp [w_fnD, s_pairs_by, w_rng1, e3, e5]
  refine ⟨le_size (by omega), ?_⟩
  refine comp_all (fun b => prD (none, some b)) (fun b hb => ?_) ?_
  · refine ⟨_, rfl, ?_⟩
    simp
    exact ⟨le_size (by omega), rfl⟩
  simp only [k_own, k_seq0, w_seq, w_for, w_rng1, w_call, w_lCons, w_un, w_var, a_at_0, a_at_s, List.set_cons_succ, List.set_cons_zero, Ok_some, f_asks, k_lc, w_lNil, a_g1, len_LT, e3, k_for]
  refine W_for (fun done ρ p' => p' = p ∧ ∃ c2 c3, ρ = [.sh (mkD m), .own ((((List.range m.answers.length).map fun b => ((none, some b) : Option Nat × Option Nat)) ++ done.flatMap fun a => (some a, none) :: (List.range m.answers.length).map fun b => (some a, some b)).map prD), c2, c3]) ⟨rfl, _, _, by simp; exact ⟨rfl, rfl⟩⟩ (fun done a rest ρ p' e hI => ?_) ?_
  · obtain ⟨rfl, c2, c3, rfl⟩ := hI
    have hdl : done.length < m.asks.length := by
      have := congrArg List.length e
      simp at this
      omega
    generalize hX : ((List.range m.answers.length).map fun b => ((none, some b) : Option Nat × Option Nat)) ++ done.flatMap (fun a => (some a, none) :: (List.range m.answers.length).map fun b => (some a, some b)) = X
    have hXl : X.length ≤ 1000 := by
      rw [← hX]
      have : ∀ l : List Nat, (l.flatMap fun a => ((some a, none) : Option Nat × Option Nat) :: (List.range m.answers.length).map fun b => (some a, some b)).length = l.length * (m.answers.length + 1) := by
        intro l
        induction l with
        | nil => simp
        | cons x l ih =>
          simp only [List.flatMap_cons, List.length_append, List.length_cons, List.length_map, List.length_range, ih, Nat.add_mul]
          omega
      rw [List.length_append, this, List.length_map, List.length_range]
      have : done.length * (m.answers.length + 1) ≤ 4 * 5 := Nat.mul_le_mul (by omega) (by omega)
      omega
    refine ⟨_, rfl, ?_⟩
    simp [kApp, Cell.isOwn, w_rng1, e5]
    refine ⟨le_size (by omega), lt_size (by omega), le_size (by omega), ?_⟩
    refine comp_all (fun b => prD (some a, some b)) (fun b hb => ?_) ?_
    · refine ⟨_, rfl, ?_⟩
      simp
      exact ⟨le_size (by omega), rfl⟩
    · simp [kExt]
      refine ⟨le_size (by omega), ?_⟩
      rw [← hX]
      simp [prD]
  · rintro ρ p' ⟨rfl, c2, c3, rfl⟩
    simp [frz1]
    unfold prs
    simp)
end LawN
set_option Elab.async false
set_option linter.all false
set_option maxRecDepth 100000
set_option maxHeartbeats 4000000
namespace LawN
open Dn Mkt PySem PySem.Spec PyProof.Rows L2

theorem m_broken_by {m : Mk} (h : MOk m) {r : List (Option Nat)} (V : Valid m r) {p : Pen} : ∃ d, d_broken_by [mkD m, oT r] p = some (d, p) ∧ (d = .non ∧ stdB m r = true ∨ (∃ x y, d = .tup [x, y]) ∧ stdB m r = false) := by
  have h4 := h.a4
  have h5 := h.b4
  suffices hW : W (d_broken_by [mkD m, oT r] p) fun d q => q = p ∧ (d = .non ∧ stdB m r = true ∨ (∃ x y, d = .tup [x, y]) ∧ stdB m r = false) by
    obtain ⟨d, q, e, rfl, hd⟩ := hW
    exact ⟨d, e, hd⟩
  unfold d_broken_by
  simp [w_fnD, s_broken_by, W_eq (m_pairs_by h)]
  refine W_for (fun done ρ p' => p' = p ∧ (∃ c2 c3, ρ = [.sh (mkD m), .sh (oT r), c2, c3]) ∧ done.all (fun q => !brk m r q) = true) ⟨rfl, ⟨_, _, rfl⟩, rfl⟩ (fun done q rest ρ p' e hI => ?_) ?_
  · obtain ⟨rfl, ⟨c2, c3, rfl⟩, hall⟩ := hI
    have hq : q ∈ prs m.asks.length m.answers.length := by rw [e]; simp
    have hb := m_is_broken h V hq (p := p')
    refine ⟨[.sh (mkD m), .sh (oT r), .sh (oD q.1), .sh (oD q.2)], rfl, ?_⟩
    cases hbr : brk m r q with
    | true =>
      rw [hbr] at hb
      simp [W_eq hb]
      refine ⟨le_size (by omega), ?_⟩
      unfold stdB
      rw [e]
      simp [hbr]
    | false =>
      rw [hbr] at hb
      simp [W_eq hb]
      simp at hall
      exact ⟨hall, hbr⟩
  · rintro ρ p' ⟨rfl, ⟨c2, c3, rfl⟩, hall⟩
    simp
    exact hall
theorem mats_len4 {m : Mk} (h : MOk m) {k : Nat} (hk : k ≤ m.asks.length) : (mats m.answers.length k).length ≤ 625 := by
  have h4 := h.a4
  have h5 := h.b4
  refine Nat.le_trans (mats_len _ k) ?_
  have e1 : (m.answers.length + 1) ^ k ≤ 5 ^ k := Nat.pow_le_pow_left (by omega) k
  have e2 : 5 ^ k ≤ 5 ^ 4 := Nat.pow_le_pow_right (by omega) (by omega)
  exact Nat.le_trans e1 e2
theorem m_matchings_by {m : Mk} (h : MOk m) {p : Pen} : d_matchings_by [mkD m] p = some (.lst ((mats m.answers.length m.asks.length).map oT), p) := eq_of_W (by
  have h4 := h.a4
  have h5 := h.b4
  have e3 := rng_n (n := m.asks.length) (by omega)
  have e5 := rng_n (n := m.answers.length) (by omega)
  unfold d_matchings_by
  simp [w_fnD, s_matchings_by, w_rng1, e3]
  refine ⟨le_size (by omega), ?_⟩
  refine W_for (fun done ρ p' => p' = p ∧ ∃ c2 c3 c4 c5 c6, ρ = [.sh (mkD m), .sh (.lst ((mats m.answers.length done.length).map oT)), c2, c3, c4, c5, c6]) ⟨rfl, _, _, _, _, _, rfl⟩ (fun done a rest ρ p' e hI => ?_) ?_
  · obtain ⟨rfl, c2, c3, c4, c5, c6, rfl⟩ := hI
    have hdl : done.length < m.asks.length := by
      have := congrArg List.length e
      simp at this
      omega
    have hfin := mats_len4 h (show done.length + 1 ≤ m.asks.length by omega)
    refine ⟨_, rfl, ?_⟩
    simp
    refine W_for (fun d2 ρ p'' => p'' = p' ∧ ∃ c4 c5 c6, ρ = [.sh (mkD m), .sh (.lst ((mats m.answers.length done.length).map oT)), .sh (ni a), .own ((d2.flatMap fun r => (none :: ((List.range m.answers.length).filter fun b => decide (some b ∉ r)).map some).map fun o => r ++ [o]).map oT), c4, c5, c6]) ⟨rfl, _, _, _, rfl⟩ (fun d2 r r2 ρ p'' e2 hI => ?_) ?_
    · obtain ⟨rfl, c4, c5, c6, rfl⟩ := hI
      have hr : r ∈ mats m.answers.length done.length := by rw [e2]; simp
      have hrl := (mats_mem.mp hr).1
      have hflat : (d2.flatMap fun r => (none :: ((List.range m.answers.length).filter fun b => decide (some b ∉ r)).map some).map fun o => r ++ [o]).length + ((none :: ((List.range m.answers.length).filter fun b => decide (some b ∉ r)).map some).map fun o => r ++ [o]).length ≤ 625 := by
        rw [mats, e2, List.flatMap_append, List.flatMap_cons, List.length_append, List.length_append] at hfin
        omega
      generalize hX : (d2.flatMap fun r => (none :: ((List.range m.answers.length).filter fun b => decide (some b ∉ r)).map some).map fun o => r ++ [o]) = X at hflat
      have hfl := List.length_filter_le (fun b => decide (some b ∉ r)) (List.range m.answers.length)
      rw [List.length_range] at hfl
      refine ⟨_, rfl, ?_⟩
      simp only [w_seq, w_own, w_comp, w_rng1, w_call, w_lCons, w_un, w_var, a_at_0, a_at_s, List.set_cons_succ, List.set_cons_zero, Ok_some, f_answers, k_lc, w_lNil, a_g1, len_LT, e5, k_comp, wipe_s, wipe_0]
      refine ⟨le_size (by simp; omega), ?_⟩
      refine comp_map (fun b => decide (some b ∉ r)) ni (fun b hb => ?_) ?_
      · have h1 : gNotIn (ni b) (oT r) = some (!decide (some b ∈ r)) := notin_mapT oD_inj (pl_oD 15) (some b) r
        refine ⟨_, rfl, ?_, fun _ => by simp⟩
        simp [h1]
      · generalize hF : ((List.range m.answers.length).filter fun b => decide (some b ∉ r)) = F at hflat hfl
        have ecat : D.non :: F.map ni = (none :: F.map some).map oD := by simp
        simp only [k_own, k_seq0, w_seq, w_ext, w_comp, w_seqI, w_lst, w_disp, w_lCons, w_c, k_lc, w_lStar, w_vb, a_at_0, a_at_s, List.set_cons_succ, List.set_cons_zero, Ok_some, k_ls, its_lst, w_lNil, List.append_nil, walk_lst, k_comp, Cell.isOwn, and_true, wipe_s, wipe_0]
        refine ⟨le_size (by simp; omega), le_size (by simp; omega), ?_⟩
        rw [ecat]
        refine comp_all (fun o => oT (r ++ [o])) (fun o ho => ?_) ?_
        · refine ⟨_, rfl, ?_⟩
          have eo : D.its (oT r) = some (r.map oD) := rfl
          simp [eo]
          exact ⟨le_size (by omega), by unfold oT; simp⟩
        · simp only [kExt, a_at_0, a_at_s]
          refine ⟨le_size (by simp at hflat ⊢; omega), ?_⟩
          have hF2 : ((List.range m.answers.length).filter fun b => !decide (some b ∈ r)) = F := by
            rw [← hF]
            refine congrArg (fun k => List.filter k (List.range m.answers.length)) (funext fun b => ?_)
            by_cases hb : some b ∈ r
            · rw [decide_eq_true hb, decide_eq_false (fun z => z hb)]
              rfl
            · rw [decide_eq_false hb, decide_eq_true hb]
              rfl
          simp [← hX]
          rw [hF2]
          rfl
    · rintro ρ p'' ⟨rfl, c4, c5, c6, rfl⟩
      simp [frz1]
      rw [mats]
      simp
  · rintro ρ p' ⟨rfl, c2, c3, c4, c5, c6, rfl⟩
    simp)
theorem m_all_steady {m : Mk} (h : MOk m) {p : Pen} : d_all_steady [mkD m] p = some (.tup ((allS m).map oT), p) := eq_of_W (by
  have hl := mats_len4 h (Nat.le_refl _)
  unfold d_all_steady
  simp [w_fnD, s_all_steady]
  unfold d_steady_by
  simp [w_fnD, s_steady_by, W_eq (m_matchings_by h)]
  refine ⟨le_size (by omega), ?_⟩
  refine comp_map (fun r => stdB m r) oT (fun r hr => ?_) ?_
  · obtain ⟨d, e, hd⟩ := m_broken_by h (mats_valid.mp hr) (p := p)
    refine ⟨_, rfl, ?_, fun _ => by simp⟩
    rcases hd with ⟨rfl, h2⟩ | ⟨⟨x, y, rfl⟩, h2⟩
    · simp [W_eq e, h2]
    · have : gIs (.tup [x, y]) .non = some false := rfl
      simp [W_eq e, h2, this]
  · simp [allS])
end LawN
set_option Elab.async false
set_option linter.all false
set_option maxRecDepth 100000
set_option maxHeartbeats 4000000
namespace LawN
open Dn Mkt PySem PySem.Spec PyProof.Rows L2

/-- what may be told to be itself -/
def lw : Nat → D → Bool
  | _, .int _ => true
  | _, .bl _ => true
  | _, .non => true
  | _, .str x => PyData.strOk x && decide (x.length ≤ 1000000)
  | n + 1, .tup xs => xs.all (lw n) && decide (xs.length ≤ 1000000)
  | _, _ => false
@[simp] theorem is_int_bl (i : Int) (b : Bool) : gIs (.int i) (.bl b) = some false := rfl
@[simp] theorem is_str_non (i : Str) : gIs (.str i) .non = some false := rfl
@[simp] theorem is_str_bl (i : Str) (b : Bool) : gIs (.str i) (.bl b) = some false := rfl
@[simp] theorem is_bl_bl (a b : Bool) : gIs (.bl a) (.bl b) = some (decide (a = b)) := rfl
@[simp] theorem is_bl_non (a : Bool) : gIs (.bl a) .non = some false := rfl
theorem law_is_ : ∀ (n : Nat) (x : D) (p : Pen), lw n x = true → d__law_is_ (n + 1) [x, x] p = some (.bl true, p)
  | n, .int i, p, _ => eq_of_W (by simp [d__law_is_, w_fnD, s__law_is])
  | n, .bl b, p, _ => eq_of_W (by cases b <;> simp [d__law_is_, w_fnD, s__law_is])
  | n, .non, p, _ => eq_of_W (by simp [d__law_is_, w_fnD, s__law_is])
  | n, .str s, p, h => eq_of_W (by
    have hs : PyData.strOk s = true := by cases n <;> (simp [lw] at h; exact h.1)
    have e : gEq (.str s) (.str s) = some true := by rw [eq_pl (by simpa using hs) (by simpa using hs)]; simp
    simp [d__law_is_, w_fnD, s__law_is, e])
  | 0, .tup xs, p, h => by cases h
  | n + 1, .tup xs, p, h => eq_of_W (by
    simp only [lw, Bool.and_eq_true, decide_eq_true_eq, List.all_eq_true] at h
    have e3 : rngOk (.int (xs.length : Int)) = some ((List.range xs.length).map ni) := rng_ok (by omega) (by omega)
    show W (fnD 2 3 (s__law_is (d__law_is_ (n + 1))) [.tup xs, .tup xs] p) _
    simp [w_fnD, s__law_is, w_rng1, e3]
    refine ⟨le_size h.2, ?_⟩
    refine comp_map (fun _ => false) (fun _ => .non) (fun i hi => ?_) ?_
    · have hi : i < xs.length := by simpa using hi
      have ih := law_is_ n xs[i] p (h.1 _ (List.getElem_mem hi))
      refine ⟨_, rfl, ?_, fun z => by cases z⟩
      simp [atI_nat hi, W_eq ih]
    · have e : gEq (.lst []) (.lst []) = some true := by rw [eq_pl (by simp) (by simp)]; simp
      rw [List.filter_eq_nil_iff.mpr (by simp)]
      simp [e])
  | n, .lst _, p, h => by cases n <;> cases h
  | n, .wtup _, p, h => by cases n <;> cases h
  | n, .ins _ _, p, h => by cases n <;> cases h
  | n, .fn _, p, h => by cases n <;> cases h
  | n, .pen, p, h => by cases n <;> cases h
theorem law_is {x y : D} {p : Pen} (e : x = y) (h : lw 7 x = true) : d__law_is [x, y] p = some (.bl true, p) := by
  subst e
  exact law_is_ 7 x p h

theorem lw_oT (n : Nat) (l : List (Option Nat)) (h : l.length ≤ 1000000) : lw (n + 1) (oT l) = true := by
  unfold oT
  simp only [lw, List.length_map, Bool.and_eq_true, decide_eq_true_eq, List.all_eq_true, List.mem_map]
  refine ⟨?_, h⟩
  rintro x ⟨o, _, rfl⟩
  cases o <;> cases n <;> rfl
theorem fm_map (r : List (Option Nat)) : (r.filter Option.isSome).map oD = (r.filterMap id).map ni := by
  induction r with
  | nil => rfl
  | cons x r ih => cases x <;> simp [ih]
theorem fm_mem {r : List (Option Nat)} {b : Nat} : b ∈ r.filterMap id ↔ some b ∈ r := by simp
theorem fm_nd {m : Mk} {r : List (Option Nat)} (V : Valid m r) : (r.filterMap id).Nodup := by
  have key : r.Pairwise fun x y => ∀ b, x = some b → y = some b → False := by
    rw [List.pairwise_iff_getElem]
    intro i j hi hj hij b h1 h2
    have e1 : on r i = some b := by
      unfold on
      rw [List.getD_eq_getElem?_getD, List.getElem?_eq_getElem hi, h1]
      rfl
    have e2 : on r j = some b := by
      unfold on
      rw [List.getD_eq_getElem?_getD, List.getElem?_eq_getElem hj, h2]
      rfl
    have := V.inj i j b e1 e2
    omega
  unfold List.Nodup
  rw [List.pairwise_filterMap]
  exact key.imp fun h b hb b' hb' e => h b hb (by rw [e]; exact hb')
theorem m_is_matching {m : Mk} (h : MOk m) {r : List (Option Nat)} (V : Valid m r) {p : Pen} : d_is_matching [mkD m, oT r] p = some (.bl true, p) := eq_of_W (by
  have h4 := h.a4
  have hl := V.len
  have g1 : gLen (oT r) = some (.int m.asks.length) := by unfold oT; simp [hl]
  have g2 : gIsi Zc [.ty "tuple"] (oT r) = some (.bl true) := rfl
  have g3 : (oT r).walk = some (r.map oD) := rfl
  have hfl : (r.filterMap id).length ≤ 4 := by
    have := List.length_filterMap_le id r
    omega
  unfold d_is_matching
  simp [w_fnD, s_is_matching, g1, g2, g3]
  refine ⟨le_size (by omega), ?_⟩
  refine comp_map Option.isSome oD (fun o ho => ?_) ?_
  · refine ⟨_, rfl, ?_, fun _ => by simp⟩
    cases o <;> simp
  rw [fm_map]
  simp [frz1]
  refine ⟨le_size (by omega), ?_⟩
  refine comp_all (fun _ => .bl true) (fun b hb => ?_) ?_
  · have := V.rng _ b (on_idx (fm_mem.mp hb))
    simp [W_eq m_is_index]
    omega
  rw [all_true]
  simp [frz1]
  refine ⟨le_size (by omega), ?_⟩
  refine comp_all ni (fun b hb => ?_) ?_
  · simp
  rw [lenK_nat (fm_nd V)]
  simp)
theorem m_need_matching {m : Mk} (h : MOk m) {r : List (Option Nat)} (V : Valid m r) {d : D} {p : Pen} : d_need_matching [mkD m, d, oT r] p = some (oT r, p) := eq_of_W (by
  have g2 : gIsi Zc [.ty "list"] (oT r) = some (.bl false) := rfl
  unfold d_need_matching
  simp [w_fnD, s_need_matching, g2, W_eq (m_is_matching h V)])
theorem m_need_steady {m : Mk} (h : MOk m) {r : List (Option Nat)} (S : Steady m r) {d : D} {p : Pen} : d_need_steady [mkD m, d, oT r] p = some (oT r, p) := eq_of_W (by
  have V := S.valid h.ok
  have g2 : gIsi Zc [.ty "list"] (oT r) = some (.bl false) := rfl
  obtain ⟨x, e, hx⟩ := m_broken_by h V (p := p)
  have hs := (stdB_iff h.ok V).mpr S
  rcases hx with ⟨rfl, _⟩ | ⟨_, h2⟩
  · unfold d_need_steady
    simp [w_fnD, s_need_steady, g2, W_eq (m_is_matching h V), W_eq e]
  · rw [hs] at h2
    cases h2)
theorem m_would_rather_than {L : List Nat} {x y : Option Nat} {p : Pen} (hx : ∀ z, x = some z → z ∈ L) (hy : ∀ z, y = some z → z ∈ L) : d_would_rather_than [nT L, oD x, oD y] p = some (.bl (decide (pl L x < pl L y)), p) := eq_of_W (by
  unfold d_would_rather_than
  cases x with
  | none =>
    have : ¬pl L none < pl L y := by
      rw [pl_none]
      cases y with
      | none =>
        rw [pl_none]
        omega
      | some y =>
        have := pl_lt (hy y rfl)
        omega
    simp [w_fnD, s_would_rather_than, this]
  | some x =>
    have w := @m_would_rather L x y p
    have : decide (rather L x y) = decide (pl L (some x) < pl L y) := decide_eq_decide.mpr (rather_pl (hx x rfl) hy)
    rw [this] at w
    simp [w_fnD, s_would_rather_than, W_eq w])
theorem m_better_of {m : Mk} (h : MOk m) {mu nu : List (Option Nat)} (S : Steady m mu) (T : Steady m nu) {p : Pen} : d_better_of [mkD m, oT mu, oT nu] p = some (oT (joinF m mu nu), p) := eq_of_W (by
  have h4 := h.a4
  unfold d_better_of
  simp [w_fnD, s_better_of, W_eq (m_need_steady h S), W_eq (m_need_steady h T)]
  have hjl : (joinF m mu nu).length = m.asks.length := by simp [joinF]
  refine W_forE (fun done ρ p' => p' = p ∧ ∃ c6 c7, ρ = [.sh (mkD m), .sh (oT mu), .sh (oT nu), .sh (oT mu), .sh (oT nu), .own (((joinF m mu nu).take done.length).map oD), c6, c7]) ⟨rfl, _, _, rfl⟩ (fun done L rest ρ p' e hI => ?_) ?_
  · obtain ⟨rfl, c6, c7, rfl⟩ := hI
    have hdl : done.length < m.asks.length := by rw [e]; simp
    have hL : m.ask done.length = L := by
      unfold Mk.ask
      rw [List.getD_eq_getElem?_getD, e]
      simp
    have g1 := ix_oT (l := mu) (i := done.length) (by rw [S.len]; exact hdl)
    have g2 := ix_oT (l := nu) (i := done.length) (by rw [T.len]; exact hdl)
    have w := @m_would_rather_than L (on nu done.length) (on mu done.length) p' (by rw [← hL]; exact T.ira _) (by rw [← hL]; exact S.ira _)
    have hj : (joinF m mu nu)[done.length]? = some (if pl L (on nu done.length) < pl L (on mu done.length) then on nu done.length else on mu done.length) := by
      unfold joinF
      rw [List.getElem?_map, List.getElem?_range hdl, ← hL]
      rfl
    refine ⟨_, rfl, ?_⟩
    by_cases hlt : pl L (on nu done.length) < pl L (on mu done.length)
    · rw [if_pos hlt] at hj
      simp [g1, g2, W_eq w, hlt, kApp, Cell.isOwn]
      refine ⟨lt_size (by omega), ?_⟩
      rw [List.take_add_one, List.getElem?_map, hj]
      rfl
    · rw [if_neg hlt] at hj
      simp [g1, g2, W_eq w, hlt, kApp, Cell.isOwn]
      refine ⟨lt_size (by omega), ?_⟩
      rw [List.take_add_one, List.getElem?_map, hj]
      rfl
  · rintro ρ p' ⟨rfl, c6, c7, rfl⟩
    simp
    rw [List.take_of_length_le (by simp [hjl])]
    rfl)
theorem m_matching_turned {m : Mk} (h : MOk m) {r : List (Option Nat)} (V : Valid m r) {p : Pen} : ∃ nu, Back m.answers.length r nu ∧ d_matching_turned [mkD m, oT r] p = some (oT nu, p) := by
  obtain ⟨nu, B, e⟩ := m_turned_by h V (p := p)
  refine ⟨nu, B, eq_of_W ?_⟩
  unfold d_matching_turned
  simp [w_fnD, s_matching_turned, W_eq (m_need_matching h V), W_eq e]
theorem m_sides_turned {m : Mk} {p : Pen} (h : MOk m) : d_sides_turned [mkD m] p = some (mkD m.turn, p) := eq_of_W (by
  unfold d_sides_turned
  simp [w_fnD, s_sides_turned, W_eq (m_turned_sides h)])
/-- the worse one for each asker -/
def meetF (m : Mk) (mu nu : List (Option Nat)) : List (Option Nat) := (List.range m.asks.length).map fun a => if pl (m.ask a) (on mu a) < pl (m.ask a) (on nu a) then on nu a else on mu a
theorem meetF_on {m : Mk} {mu nu : List (Option Nat)} (S : Steady m mu) (T : Steady m nu) (a : Nat) : on (meetF m mu nu) a = if pl (m.ask a) (on mu a) < pl (m.ask a) (on nu a) then on nu a else on mu a := by
  by_cases ha : a < m.asks.length
  · unfold meetF
    rw [show on ((List.range m.asks.length).map fun a => if pl (m.ask a) (on mu a) < pl (m.ask a) (on nu a) then on nu a else on mu a) a = (((List.range m.asks.length).map fun a => if pl (m.ask a) (on mu a) < pl (m.ask a) (on nu a) then on nu a else on mu a)[a]?).getD none from List.getD_eq_getElem?_getD .., List.getElem?_map, List.getElem?_range ha]
    rfl
  · have h1 : on mu a = none := getD_out (by rw [S.len]; omega)
    have h2 : on nu a = none := getD_out (by rw [T.len]; omega)
    have h3 : on (meetF m mu nu) a = none := getD_out (by simp [meetF]; omega)
    rw [h1, h2, h3]
    simp
theorem meetF_pl {m : Mk} {mu nu : List (Option Nat)} (S : Steady m mu) (T : Steady m nu) (a : Nat) : pl (m.ask a) (on (meetF m mu nu) a) = max (pl (m.ask a) (on mu a)) (pl (m.ask a) (on nu a)) := by
  rw [meetF_on S T]
  split <;> omega
theorem m_worse_of {m : Mk} (h : MOk m) {mu nu : List (Option Nat)} (S : Steady m mu) (T : Steady m nu) {p : Pen} : Steady m (meetF m mu nu) ∧ d__law_worse_of [mkD m, oT mu, oT nu] p = some (oT (meetF m mu nu), p) := by
  obtain ⟨bm, Bm, e1⟩ := m_matching_turned h (S.valid h.ok) (p := p)
  obtain ⟨bn, Bn, e2⟩ := m_matching_turned h (T.valid h.ok) (p := p)
  have Sb := Bm.steady S
  have Tb := Bn.steady T
  have J := joinF_steady h.turn.ok Sb Tb
  have e3 := m_better_of h.turn Sb Tb (p := p)
  obtain ⟨cm, C, e4⟩ := m_matching_turned h.turn (J.valid h.turn.ok) (p := p)
  have C' : Back m.asks.length (joinF m.turn bm bn) cm := C
  have Sc : Steady m cm := Mkt.Back.steady (m := m.turn) J C
  have hcm : cm = meetF m mu nu := by
    refine list_ext (by rw [Sc.len]; simp [meetF]) fun a => ?_
    refine pl_inj (L := m.ask a) (Sc.ira a) (fun z hz => ?_) ?_
    · rw [meetF_on S T] at hz
      split at hz
      · exact T.ira a z hz
      · exact S.ira a z hz
    · rw [worse_pl h.ok S T Bm Bn C' a, meetF_pl S T]
  subst hcm
  refine ⟨Sc, eq_of_W ?_⟩
  unfold d__law_worse_of
  simp [w_fnD, s__law_worse_of, W_eq (m_sides_turned h), W_eq e1, W_eq e2, W_eq e3, W_eq e4]
end LawN
set_option Elab.async false
set_option linter.all false
set_option maxRecDepth 100000
set_option maxHeartbeats 4000000
namespace LawN
open Dn Mkt PySem PySem.Spec PyProof.Rows L2

def two (m : Mk) : D := .tup [LT m.asks, LT m.answers]
@[simp] theorem two_0 (m : Mk) : gIx (two m) (.int 0) = some (LT m.asks) := rfl
@[simp] theorem two_1 (m : Mk) : gIx (two m) (.int 1) = some (LT m.answers) := rfl
theorem cut_take {α : Type} (xs : List α) (n : Nat) : cut xs none (some (n : Int)) = xs.take n := by
  simp only [cut, HT.sIx_none, HT.sIx_nat]
  rw [Nat.sub_zero, List.drop_zero]
  by_cases h : n ≤ xs.length
  · rw [Nat.min_eq_left h]
  · rw [Nat.min_eq_right (by omega), List.take_of_length_le (Nat.le_refl _), List.take_of_length_le (by omega)]
theorem W_drawn_list {p : Pen} {w : Nat} {Q : D → Pen → Prop} (hp : PenOk p) (hw : w ≤ 1000) (k : ∀ L p', PenOk p' → L.Nodup → (∀ x ∈ L, x < w) → Q (nT L) p') : W (d__law_drawn_list [.pen, .int w] p) Q := by
  unfold d__law_drawn_list
  simp [w_fnD, s__law_drawn_list, lr_n (show w ≤ 1000000 by omega)]
  refine W_shuf hp (by simp; omega) fun ys p1 hp1 hys => ?_
  obtain ⟨zs, rfl, hzs⟩ := perm_ni hys
  simp
  refine W_draw hp1 (by omega) (by omega) fun i p2 hp2 i0 i1 => ?_
  obtain ⟨i, rfl⟩ := Int.eq_ofNat_of_zero_le i0
  simp
  refine ⟨le_size (by decide), ?_⟩
  refine W_pick hp2 (by simp) (by simp) fun d p3 hp3 hd => ?_
  have : ∃ j : Nat, d = ni j := by
    simp at hd
    rcases hd with rfl | rfl
    · exact ⟨w, rfl⟩
    · exact ⟨i, rfl⟩
  obtain ⟨j, rfl⟩ := this
  have e : cut (zs.map ni) none (some (j : Int)) = (zs.take j).map ni := by rw [cut_take, List.map_take]
  have hnd : zs.Nodup := hzs.nodup_iff.mpr List.nodup_range
  simp [e]
  have := k (zs.take j) p3 hp3 ((List.take_sublist j zs).nodup hnd) fun x hx => by
    have := hzs.mem_iff.mp ((List.take_sublist j zs).mem hx)
    simpa using this
  unfold nT at this
  rw [List.map_take] at this
  exact this
theorem nd_len {L : List Nat} {w : Nat} (h : L.Nodup) (k : ∀ x ∈ L, x < w) : L.length ≤ w := by
  have := List.Nodup.length_le_of_subset (l₂ := List.range w) h fun x hx => by simpa using k x hx
  simpa using this
/-- so many drawn lists -/
theorem comp_lists {b : DG} {f : DE} {ρ : Dn.Env} {w : Nat} : ∀ {xs : List D} {p : Pen} {Q : List D → Pen → Prop}, PenOk p → (∀ x ∈ xs, ∀ p, PenOk p → ∃ ρ1, b x ρ = some ρ1 ∧ W (f ρ1 p) fun d p' => PenOk p' ∧ ∃ L : List Nat, d = nT L ∧ (L.Nodup ∧ ∀ x ∈ L, x < w)) → (∀ (Ls : List (List Nat)) p', PenOk p' → Ls.length = xs.length → (∀ L ∈ Ls, L.Nodup ∧ ∀ x ∈ L, x < w) → Q (Ls.map nT) p') → W (compGo b Dn.tYes f ρ xs p) Q :=
  fun hp h k => comp_gen nT (fun L => L.Nodup ∧ ∀ x ∈ L, x < w) hp h k

theorem m_made' {m : Mk} {p : Pen} (h : MOk m) : d__law_made_market [two m] p = some (mkD m, p) := m_made h
section
variable {m : Mk} {mu nu xi : List (Option Nat)}
theorem meetF_steady (h : MOk m) (S : Steady m mu) (T : Steady m nu) : Steady m (meetF m mu nu) := (m_worse_of h S T (p := pen0 [])).1
theorem j_comm (h : MOk m) (S : Steady m mu) (T : Steady m nu) : joinF m nu mu = joinF m mu nu := (joinF_steady h.ok T S).eq (joinF_steady h.ok S T) fun a => by rw [joinF_pl T S, joinF_pl S T]; omega
theorem k_comm (h : MOk m) (S : Steady m mu) (T : Steady m nu) : meetF m nu mu = meetF m mu nu := (meetF_steady h T S).eq (meetF_steady h S T) fun a => by rw [meetF_pl T S, meetF_pl S T]; omega
theorem j_abs (h : MOk m) (S : Steady m mu) (T : Steady m nu) : joinF m mu (meetF m mu nu) = mu := (joinF_steady h.ok S (meetF_steady h S T)).eq S fun a => by rw [joinF_pl S (meetF_steady h S T), meetF_pl S T]; omega
theorem k_abs (h : MOk m) (S : Steady m mu) (T : Steady m nu) : meetF m mu (joinF m mu nu) = mu := (meetF_steady h S (joinF_steady h.ok S T)).eq S fun a => by rw [meetF_pl S (joinF_steady h.ok S T), joinF_pl S T]; omega
theorem j_le (h : MOk m) (S : Steady m mu) (T : Steady m nu) (l : ∀ a, pl (m.ask a) (on mu a) ≤ pl (m.ask a) (on nu a)) : joinF m mu nu = mu := (joinF_steady h.ok S T).eq S fun a => by rw [joinF_pl S T]; have := l a; omega
theorem k_le (h : MOk m) (S : Steady m mu) (T : Steady m nu) (l : ∀ a, pl (m.ask a) (on mu a) ≤ pl (m.ask a) (on nu a)) : meetF m mu nu = nu := (meetF_steady h S T).eq T fun a => by rw [meetF_pl S T]; have := l a; omega
theorem j_idem (h : MOk m) (S : Steady m mu) : joinF m mu mu = mu := j_le h S S fun _ => Nat.le_refl _
theorem k_idem (h : MOk m) (S : Steady m mu) : meetF m mu mu = mu := k_le h S S fun _ => Nat.le_refl _
theorem j_assoc (h : MOk m) (S : Steady m mu) (T : Steady m nu) (U : Steady m xi) : joinF m (joinF m mu nu) xi = joinF m mu (joinF m nu xi) := (joinF_steady h.ok (joinF_steady h.ok S T) U).eq (joinF_steady h.ok S (joinF_steady h.ok T U)) fun a => by
  rw [joinF_pl (joinF_steady h.ok S T) U, joinF_pl S T, joinF_pl S (joinF_steady h.ok T U), joinF_pl T U]; omega
theorem k_assoc (h : MOk m) (S : Steady m mu) (T : Steady m nu) (U : Steady m xi) : meetF m (meetF m mu nu) xi = meetF m mu (meetF m nu xi) := (meetF_steady h (meetF_steady h S T) U).eq (meetF_steady h S (meetF_steady h T U)) fun a => by
  rw [meetF_pl (meetF_steady h S T) U, meetF_pl S T, meetF_pl S (meetF_steady h T U), meetF_pl T U]; omega
theorem dist_ (h : MOk m) (S : Steady m mu) (T : Steady m nu) (U : Steady m xi) : meetF m mu (joinF m nu xi) = joinF m (meetF m mu nu) (meetF m mu xi) := (meetF_steady h S (joinF_steady h.ok T U)).eq (joinF_steady h.ok (meetF_steady h S T) (meetF_steady h S U)) fun a => by
  rw [meetF_pl S (joinF_steady h.ok T U), joinF_pl T U, joinF_pl (meetF_steady h S T) (meetF_steady h S U), meetF_pl S T, meetF_pl S U]; omega
end
/-- None is ahead of all numbers -/
def kD : Option Nat → D
  | none => .int (-1)
  | some n => ni n
theorem m_match_key {x y : Option Nat} {p : Pen} : d__law_match_key [.tup [oD x, oD y]] p = some (.tup [kD x, kD y], p) := eq_of_W (by
  unfold d__law_match_key
  simp [w_fnD, s__law_match_key]
  refine ⟨le_size (by omega), ?_⟩
  have e : [oD x, oD y] = [x, y].map oD := rfl
  rw [e]
  refine comp_all kD (fun o ho => ?_) ?_
  · refine ⟨_, rfl, ?_⟩
    have ng : gNeg (.int 1) = some (.int (-1)) := rfl
    cases o <;> simp [ng, kD]
  · simp)
theorem oT_inj (a b : List (Option Nat)) (h : oT a = oT b) : a = b := by
  unfold oT at h
  exact (List.map_inj_right fun x y e => oD_inj x y e).mp (D.tup.inj h)
theorem pl_oT (n : Nat) (a : List (Option Nat)) : (oT a).pl (n + 1) = true := by
  unfold oT
  rw [pl_tup, List.all_map, List.all_eq_true]
  exact fun x _ => pl_oD n x
def stD (m : Mk) : D := .tup ((allS m).map oT)
theorem notin_st {m : Mk} (h : MOk m) {r : List (Option Nat)} (S : Steady m r) : gNotIn (oT r) (stD m) = some false := by
  have := notin_mapT oT_inj (pl_oT 14) r (allS m)
  have e : decide (r ∈ allS m) = true := decide_eq_true ((allS_mem h.ok).mpr S)
  rw [e] at this
  exact this
theorem lw4 {a b c d : List (Option Nat)} (ha : a.length ≤ 1000) (hb : b.length ≤ 1000) (hc : c.length ≤ 1000) (hd : d.length ≤ 1000) : lw 7 (.tup [oT a, oT b, oT c, oT d]) = true := by
  simp [lw, lw_oT 5 a (by omega), lw_oT 5 b (by omega), lw_oT 5 c (by omega), lw_oT 5 d (by omega)]
theorem lw2 {a b : List (Option Nat)} (ha : a.length ≤ 1000) (hb : b.length ≤ 1000) : lw 7 (.tup [oT a, oT b]) = true := by
  simp [lw, lw_oT 5 a (by omega), lw_oT 5 b (by omega)]
theorem m_two_right {m : Mk} (h : MOk m) {mu nu : List (Option Nat)} (S : Steady m mu) (T : Steady m nu) {p : Pen} : d__law_two_right [mkD m, oT mu, oT nu, stD m] p = some (.bl true, p) := eq_of_W (by
  have h4 := h.a4
  have J := joinF_steady h.ok S T
  have K := meetF_steady h S T
  have b1 := m_better_of h S T (p := p)
  have b2 := m_better_of h T S (p := p)
  have b3 := m_better_of h S K (p := p)
  have b4 := m_better_of h S S (p := p)
  have k1 := (m_worse_of h S T (p := p)).2
  have k2 := (m_worse_of h T S (p := p)).2
  have k3 := (m_worse_of h S J (p := p)).2
  have k4 := (m_worse_of h S S (p := p)).2
  rw [j_comm h S T] at b2
  rw [k_comm h S T] at k2
  rw [j_abs h S T] at b3
  rw [k_abs h S T] at k3
  rw [j_idem h S] at b4
  rw [k_idem h S] at k4
  have l1 : d__law_is [.tup [oT (joinF m mu nu), oT (meetF m mu nu)], .tup [oT (joinF m mu nu), oT (meetF m mu nu)]] p = some (.bl true, p) := law_is rfl (lw2 (by rw [J.len]; omega) (by rw [K.len]; omega))
  have l2 : d__law_is [.tup [oT mu, oT mu, oT mu, oT mu], .tup [oT mu, oT mu, oT mu, oT mu]] p = some (.bl true, p) := law_is rfl (lw4 (by rw [S.len]; omega) (by rw [S.len]; omega) (by rw [S.len]; omega) (by rw [S.len]; omega))
  have g1 : gLen (oT mu) = some (.int m.asks.length) := by unfold oT; simp [S.len]
  have e3 := rng_n (n := m.asks.length) (by omega)
  unfold d__law_two_right
  simp [w_fnD, s__law_two_right, W_eq b1, W_eq k1, setAll, notin_st h J, notin_st h K, W_eq b2, W_eq k2, W_eq l1, W_eq b3, W_eq k3, W_eq b4, W_eq k4, W_eq l2, g1, w_rng1, e3]
  refine ⟨le_size (by omega), le_size (by omega), ?_⟩
  refine W_for (fun done ρ p' => p' = p ∧ ∃ c, ρ = [.sh (mkD m), .sh (oT mu), .sh (oT nu), .sh (stD m), .sh (oT (joinF m mu nu)), .sh (oT (meetF m mu nu)), c]) ⟨rfl, _, rfl⟩ (fun done a rest ρ p' e hI => ?_) ?_
  · obtain ⟨rfl, c, rfl⟩ := hI
    have ha : a < m.asks.length := by
      have : a ∈ List.range m.asks.length := by rw [e]; simp
      simpa using this
    have g2 := ix_oT (l := mu) (i := a) (by rw [S.len]; exact ha)
    have g3 := ix_oT (l := nu) (i := a) (by rw [T.len]; exact ha)
    have g4 := ix_oT (l := joinF m mu nu) (i := a) (by rw [J.len]; exact ha)
    have g5 := ix_oT (l := meetF m mu nu) (i := a) (by rw [K.len]; exact ha)
    have hk : (.tup [kD (on (joinF m mu nu) a), kD (on (meetF m mu nu) a)] : D) ∈ [D.tup [kD (on mu a), kD (on nu a)], D.tup [kD (on nu a), kD (on mu a)]] := by
      rw [joinF_on S T, meetF_on S T]
      by_cases h1 : pl (m.ask a) (on nu a) < pl (m.ask a) (on mu a)
      · have h2 : ¬pl (m.ask a) (on mu a) < pl (m.ask a) (on nu a) := by omega
        rw [if_pos h1, if_neg h2]
        simp
      · rw [if_neg h1]
        by_cases h2 : pl (m.ask a) (on mu a) < pl (m.ask a) (on nu a)
        · rw [if_pos h2]
          simp
        · rw [if_neg h2]
          have := pl_inj (S.ira a) (T.ira a) (show pl (m.ask a) (on mu a) = pl (m.ask a) (on nu a) by omega)
          rw [this]
          simp
    have kp : ∀ o : Option Nat, ∀ n, (kD o).pl n = true := fun o n => by cases o <;> exact pl_int n _
    have g6 : gNotIn (.tup [kD (on (joinF m mu nu) a), kD (on (meetF m mu nu) a)]) (.tup [D.tup [kD (on mu a), kD (on nu a)], D.tup [kD (on nu a), kD (on mu a)]]) = some false := by
      rw [notin_tup (by simp [kp]) (by simp [kp])]
      simp only [hk, decide_true, Bool.not_true]
    refine ⟨_, rfl, ?_⟩
    simp [g2, g3, g4, g5, W_eq m_match_key, g6]
    exact le_size (by omega)
  · rintro ρ p' ⟨rfl, c, rfl⟩
    simp)
theorem m_three_right {m : Mk} (h : MOk m) {mu nu xi : List (Option Nat)} (S : Steady m mu) (T : Steady m nu) (U : Steady m xi) {p : Pen} : d__law_three_right [mkD m, oT mu, oT nu, oT xi] p = some (.bl true, p) := eq_of_W (by
  have J := joinF_steady h.ok T U
  have K := meetF_steady h T U
  have J2 := joinF_steady h.ok S T
  have K2 := meetF_steady h S T
  have K3 := meetF_steady h S U
  have b1 := m_better_of h T U (p := p)
  have b2 := m_better_of h S T (p := p)
  have b3 := m_better_of h J2 U (p := p)
  have b4 := m_better_of h S J (p := p)
  have b5 := m_better_of h K2 K3 (p := p)
  have k1 := (m_worse_of h T U (p := p)).2
  have k2 := (m_worse_of h S T (p := p)).2
  have k3 := (m_worse_of h K2 U (p := p)).2
  have k4 := (m_worse_of h S K (p := p)).2
  have k5 := (m_worse_of h S J (p := p)).2
  have k6 := (m_worse_of h S U (p := p)).2
  rw [j_assoc h S T U] at b3
  rw [k_assoc h S T U] at k3
  rw [dist_ h S T U] at k5
  have n0 : ∀ l : List (Option Nat), gNe (oT l) (oT l) = some false := fun l => by
    rw [ne_pl (pl_oT 15 l) (pl_oT 15 l)]
    simp
  have q0 : ∀ l : List (Option Nat), gEq (oT l) (oT l) = some true := fun l => by
    rw [eq_pl (pl_oT 15 l) (pl_oT 15 l)]
    simp
  unfold d__law_three_right
  simp [w_fnD, s__law_three_right, W_eq b1, W_eq k1, setAll, W_eq b2, W_eq b3, W_eq b4, W_eq k2, W_eq k3, W_eq k4, n0, W_eq k5, W_eq k6, W_eq b5, q0])
end LawN
set_option Elab.async false
set_option linter.all false
set_option maxRecDepth 100000
set_option maxHeartbeats 4000000
namespace LawN
open Dn Mkt PySem PySem.Spec PyProof.Rows L2

noncomputable def oneBody : DS :=
  (sSeq (sIf (tNot (tE (eFn 2 d__law_is (lCons (eTup (lCons (eFn 3 d_better_of (lCons (eVar 5) (lCons (eVar 7) (lCons (eVar 9) lNil)))) (lCons (eFn 3 d__law_worse_of (lCons (eVar 5) (lCons (eVar 7) (lCons (eVar 9) lNil)))) (lCons (eFn 3 d_better_of (lCons (eVar 5) (lCons (eVar 8) (lCons (eVar 9) lNil)))) (lCons (eFn 3 d__law_worse_of (lCons (eVar 5) (lCons (eVar 8) (lCons (eVar 9) lNil)))) lNil))))) (lCons (eTup (lCons (eVar 7) (lCons (eVar 9) (lCons (eVar 9) (lCons (eVar 8) lNil))))) lNil)))))
  (sSeq (sRet (eC (.bl false)))
  sSkip)
  sSkip)
  (sSeq (sIf (tCmp gNe (eLst (lComp [11] (bNm 11) (tCmp gNe (eT (tCmp gIs (eBin gIx (eVar 9) (eVar 11)) (eC .non))) (eT (tCmp gIs (eBin gIx (eVar 7) (eVar 11)) (eC .non)))) (eVar 11) (iRng1 (eCall (g1 gLen) (lCons (eVar 9) lNil))))) (eLst (lDisp lNil)))
  (sSeq (sRet (eC (.bl false)))
  sSkip)
  sSkip)
  (sSeq (sSet 10 (eFn 2 d__law_pick (lCons (eVar 1) (lCons (eVar 6) lNil))))
  (sSeq (sIf (tOr (tNot (tE (eFn 4 d__law_two_right (lCons (eVar 5) (lCons (eVar 9) (lCons (eVar 10) (lCons (eVar 6) lNil))))))) (tNot (tE (eFn 4 d__law_three_right (lCons (eVar 5) (lCons (eVar 9) (lCons (eVar 10) (lCons (eFn 2 d__law_pick (lCons (eVar 1) (lCons (eVar 6) lNil))) lNil))))))))
  (sSeq (sRet (eC (.bl false)))
  sSkip)
  sSkip)
  sSkip))))
noncomputable def restBody : DS :=
  (sSeq (sSet 5 (eFn 1 d__law_made_market (lCons (eVar 4) lNil)))
  (sSeq (sSet 6 (eFn 1 d_all_steady (lCons (eVar 5) lNil)))
  (sSeq (sPar [7, 8] (ksCons (kSh (eFn 1 d_asked_best (lCons (eVar 5) lNil))) (ksCons (kSh (eFn 1 d_answered_best (lCons (eVar 5) lNil))) ksNil)))
  (sSeq (sIf (tOr (tCmp gNotIn (eVar 7) (eVar 6)) (tOr (tCmp gNotIn (eVar 8) (eVar 6)) (tAnd (tCmp gEq (eVar 3) (eC (.int 0))) (tCmp gNe (eCall (g1 gLen) (lCons (eVar 6) lNil)) (eCall (g1 gLen) (lCons (eBin gIx (eVar 4) (eC (.int 0))) lNil))))))
  (sSeq (sRet (eC (.bl false)))
  sSkip)
  sSkip)
  (sSeq (sFor (bNm 9) (iSeq (eVar 6))
  oneBody)
  sSkip)))))
noncomputable def lawBody : DS :=
  (sSeq (sSet 3 (eFn 2 d__law_draw (lCons (eVar 1) (lCons (eC (.int 4)) lNil))))
  (sSeq (sSet 4 (eIf (tCmp gEq (eVar 3) (eC (.int 0))) (eFn 1 d__law_ring_market (lCons (eBin gAdd (eC (.int 2)) (eFn 2 d__law_draw (lCons (eVar 1) (lCons (eC (.int 3)) lNil)))) lNil)) (eIf (tCmp gLt (eVar 3) (eC (.int 3))) (eFn 1 d__law_full_market (lCons (eVar 1) lNil)) (eFn 2 d__law_drawn_market (lCons (eVar 1) (lCons (eC (.int 4)) lNil))))))
  restBody))
theorem s_law_cut : s_law = (sSeq (sFor (bNm 2) (iRng1 (eC (.int 3)))
  lawBody)
  (sSeq (sRet (eC (.bl true)))
  sSkip)) := rfl
theorem m_ring {n : Nat} {p : Pen} (h0 : 0 < n) (h4 : n ≤ 4) : d__law_ring_market [ni n] p = some (two (ringM n), p) := eq_of_W (by
  have e3 := rng_n (n := n) (by omega)
  have hn0 : n ≠ 0 := by omega
  unfold d__law_ring_market
  simp [w_fnD, s__law_ring_market, w_rng1, e3]
  refine ⟨le_size (by omega), ?_⟩
  refine comp_all (fun a => nT ((List.range n).map fun s => (a + s) % n)) (fun a ha => ?_) ?_
  · refine ⟨_, rfl, ?_⟩
    simp [w_rng1, e3]
    refine ⟨le_size (by omega), ?_⟩
    refine comp_all (fun s => ni ((a + s) % n)) (fun s hs => ?_) ?_
    · have : ((a : Int) + s).fmod n = (((a + s) % n : Nat) : Int) := by rw [← Int.natCast_add]; exact nmod
      refine ⟨_, rfl, ?_⟩
      simp [this, hn0]
    · unfold nT
      rw [List.map_map]
      exact ⟨rfl, rfl⟩
  refine ⟨le_size (by omega), ?_⟩
  refine comp_all (fun b => nT ((List.range n).map fun s => (b + 1 + s) % n)) (fun a ha => ?_) ?_
  · refine ⟨_, rfl, ?_⟩
    simp [w_rng1, e3]
    refine ⟨le_size (by omega), ?_⟩
    refine comp_all (fun s => ni ((a + 1 + s) % n)) (fun s hs => ?_) ?_
    · have : ((a : Int) + 1 + s).fmod n = (((a + 1 + s) % n : Nat) : Int) := by
        rw [show (a : Int) + 1 + s = ((a + 1 + s : Nat) : Int) by omega]
        exact nmod
      refine ⟨_, rfl, ?_⟩
      simp [this, hn0]
    · unfold nT
      rw [List.map_map]
      exact ⟨rfl, rfl⟩
  refine ⟨le_size (by omega), ?_⟩
  unfold two ringM Dn.LT
  simp)
theorem ring_ok2 : MOk (ringM 2) := ⟨⟨by decide, by decide⟩, by decide, by decide, by decide, by decide⟩
theorem ring_ok3 : MOk (ringM 3) := ⟨⟨by decide, by decide⟩, by decide, by decide, by decide, by decide⟩
theorem ring_ok4 : MOk (ringM 4) := ⟨⟨by decide, by decide⟩, by decide, by decide, by decide, by decide⟩
theorem W_full {p : Pen} {Q : D → Pen → Prop} (hp : PenOk p) (k : ∀ m p', PenOk p' → MOk m → Q (two m) p') : W (d__law_full_market [.pen] p) Q := by
  unfold d__law_full_market
  simp [w_fnD, s__law_full_market]
  refine W_draw hp (by omega) (by omega) fun i p1 hp1 i0 i1 => ?_
  obtain ⟨n, hn⟩ : ∃ n : Nat, 3 + i = n := ⟨(3 + i).toNat, by omega⟩
  have e3 := rng_n (n := n) (by omega)
  have e4 := lr_n (n := n) (by omega)
  have one : ∀ (x : D), x ∈ (List.range n).map ni → ∀ (p : Pen) (ρ : Dn.Env), PenOk p → ρ.at 0 = .sh .pen → ρ.at 1 = .sh (ni n) → W (eCall (g1 Dn.gTup) (lCons (eFn 2 d__law_shuffled (lCons (eVar 0) (lCons (eLst (lRng1 (eVar 1))) lNil))) lNil) ρ p) fun d p' => PenOk p' ∧ ∃ L : List Nat, d = nT L ∧ (L.Nodup ∧ ∀ x ∈ L, x < n) := fun x hx p ρ hp h0 h1 => by
    simp [h0, h1, e4]
    refine W_shuf hp (by simp; omega) fun ys p2 hp2 hys => ?_
    obtain ⟨zs, rfl, hzs⟩ := perm_ni hys
    simp
    exact ⟨hp2, zs, rfl, hzs.nodup_iff.mpr List.nodup_range, fun x hx => by simpa using hzs.mem_iff.mp hx⟩
  rw [i_add, Ok_some, hn]
  simp [w_rng1, e3]
  refine ⟨le_size (by omega), ?_⟩
  refine comp_lists (w := n) hp1 (fun x hx p hp => ?_) fun asks p2 hp2 hla hA => ?_
  · obtain ⟨y, _, rfl⟩ := List.mem_map.mp hx
    exact ⟨_, rfl, one (ni y) (by assumption) p _ hp rfl rfl⟩
  have hla : asks.length = n := by simpa using hla
  refine ⟨le_size (by omega), ?_⟩
  refine comp_lists (w := n) hp2 (fun x hx p hp => ?_) fun answers p3 hp3 hlb hB => ?_
  · obtain ⟨y, _, rfl⟩ := List.mem_map.mp hx
    exact ⟨_, rfl, one (ni y) (by assumption) p _ hp rfl rfl⟩
  have hlb : answers.length = n := by simpa using hlb
  refine ⟨le_size (by omega), ?_⟩
  exact k ⟨asks, answers⟩ p3 hp3 ⟨⟨fun L hL => by show L.Nodup ∧ ∀ b ∈ L, b < answers.length; rw [hlb]; exact hA L hL, fun L hL => by show L.Nodup ∧ ∀ b ∈ L, b < asks.length; rw [hla]; exact hB L hL⟩, by show 1 ≤ asks.length; omega, by show asks.length ≤ 4; omega, by show 1 ≤ answers.length; omega, by show answers.length ≤ 4; omega⟩
theorem W_drawn_market {p : Pen} {Q : D → Pen → Prop} (hp : PenOk p) (k : ∀ m p', PenOk p' → MOk m → Q (two m) p') : W (d__law_drawn_market [.pen, .int 4] p) Q := by
  unfold d__law_drawn_market
  simp [w_fnD, s__law_drawn_market]
  refine W_draw hp (by omega) (by omega) fun i p1 hp1 i0 i1 => ?_
  obtain ⟨n, hn⟩ : ∃ n : Nat, 1 + i = n := ⟨(1 + i).toNat, by omega⟩
  rw [i_add, Ok_some, hn]
  refine W_draw hp1 (by omega) (by omega) fun j p2 hp2 j0 j1 => ?_
  obtain ⟨l, hl⟩ : ∃ n : Nat, 1 + j = n := ⟨(1 + j).toNat, by omega⟩
  have e3 := rng_n (n := n) (by omega)
  have e4 := rng_n (n := l) (by omega)
  simp [hl, setAll, w_rng1, e3, e4]
  refine ⟨le_size (by omega), ?_⟩
  refine comp_lists (w := l) hp2 (fun x hx p hp => ?_) fun asks p3 hp3 hla hA => ?_
  · obtain ⟨y, _, rfl⟩ := List.mem_map.mp hx
    refine ⟨_, rfl, ?_⟩
    simp
    exact W_drawn_list (w := l) hp (by omega) fun L p' hp' h1 h2 => ⟨hp', L, rfl, h1, h2⟩
  have hla : asks.length = n := by simpa using hla
  refine ⟨le_size (by omega), ?_⟩
  refine comp_lists (w := n) hp3 (fun x hx p hp => ?_) fun answers p4 hp4 hlb hB => ?_
  · obtain ⟨y, _, rfl⟩ := List.mem_map.mp hx
    refine ⟨_, rfl, ?_⟩
    simp
    exact W_drawn_list (w := n) hp (by omega) fun L p' hp' h1 h2 => ⟨hp', L, rfl, h1, h2⟩
  have hlb : answers.length = l := by simpa using hlb
  refine ⟨le_size (by omega), ?_⟩
  exact k ⟨asks, answers⟩ p4 hp4 ⟨⟨fun L hL => by show L.Nodup ∧ ∀ b ∈ L, b < answers.length; rw [hlb]; exact hA L hL, fun L hL => by show L.Nodup ∧ ∀ b ∈ L, b < asks.length; rw [hla]; exact hB L hL⟩, by show 1 ≤ asks.length; omega, by show asks.length ≤ 4; omega, by show 1 ≤ answers.length; omega, by show answers.length ≤ 4; omega⟩
theorem one_ok {m : Mk} (h : MOk m) {best least one : List (Option Nat)} (hb : Best m best) (Sl : Steady m least) (hl : ∀ nu, Steady m nu → ∀ a, pl (m.ask a) (on nu a) ≤ pl (m.ask a) (on least a)) (S : Steady m one) {p : Pen} (hp : PenOk p) {s0 c2 c3 c10 c11 : Cell} :
    W (oneBody [s0, .sh .pen, c2, c3, .sh (two m), .sh (mkD m), .sh (stD m), .sh (oT best), .sh (oT least), .sh (oT one), c10, c11] p) fun o p' => PenOk p' ∧ ∃ d10 d11, o = .nx [s0, .sh .pen, c2, c3, .sh (two m), .sh (mkD m), .sh (stD m), .sh (oT best), .sh (oT least), .sh (oT one), d10, d11] := by
  have h4 := h.a4
  have Sb := hb.steady h.ok
  have top := best_top h.ok hb S
  have bot := hl one S
  have b1 := m_better_of h Sb S (p := p)
  have k1 := (m_worse_of h Sb S (p := p)).2
  have b2 := m_better_of h Sl S (p := p)
  have k2 := (m_worse_of h Sl S (p := p)).2
  rw [j_le h Sb S top] at b1
  rw [k_le h Sb S top] at k1
  rw [j_comm h S Sl, j_le h S Sl bot] at b2
  rw [k_comm h S Sl, k_le h S Sl bot] at k2
  have l1 : d__law_is [.tup [oT best, oT one, oT one, oT least], .tup [oT best, oT one, oT one, oT least]] p = some (.bl true, p) := law_is rfl (lw4 (by rw [Sb.len]; omega) (by rw [S.len]; omega) (by rw [S.len]; omega) (by rw [Sl.len]; omega))
  have g1 : gLen (oT one) = some (.int m.asks.length) := by unfold oT; simp [S.len]
  have e3 := rng_n (n := m.asks.length) (by omega)
  have n0 : gNe (.lst []) (.lst []) = some false := by
    rw [ne_pl (by simp) (by simp)]
    simp
  unfold oneBody
  simp [W_eq b1, W_eq k1, W_eq b2, W_eq k2, W_eq l1, g1, w_rng1, e3]
  refine ⟨le_size (by omega), le_size (by omega), ?_⟩
  refine comp_map (fun _ => false) (fun _ => .non) (fun a ha => ?_) ?_
  · have ha : a < m.asks.length := by simpa using ha
    have g2 := ix_oT (l := one) (i := a) (by rw [S.len]; exact ha)
    have g3 := ix_oT (l := best) (i := a) (by rw [Sb.len]; exact ha)
    have hr := rural h.ok S Sb a
    refine ⟨_, rfl, ?_, fun z => by cases z⟩
    have nb : ∀ b : Bool, gNe (.bl b) (.bl b) = some false := fun b => by cases b <;> rfl
    cases e1 : on one a with
    | none =>
      rw [e1] at g2
      rw [hr.mp e1] at g3
      simp [g2, g3, nb]
    | some x =>
      cases e2 : on best a with
      | none =>
        rw [hr.mpr e2] at e1
        cases e1
      | some y =>
        rw [e1] at g2
        rw [e2] at g3
        simp [g2, g3, nb]
  · rw [List.filter_eq_nil_iff.mpr (by simp)]
    have hne : (allS m).map oT ≠ [] := fun e => by
      have := (allS_mem h.ok).mpr S
      rw [List.map_eq_nil_iff.mp e] at this
      cases this
    have hml : ((allS m).map oT).length < 1073741824 := by
      have h1 := mats_len4 h (Nat.le_refl _)
      have h2 := List.length_filter_le (fun r => stdB m r) (mats m.answers.length m.asks.length)
      rw [List.length_map]
      unfold allS
      omega
    have pk : ∀ (p : Pen) (Q : D → Pen → Prop), PenOk p → (∀ r p', PenOk p' → Steady m r → Q (oT r) p') → W (d__law_pick [.pen, stD m] p) Q := fun p Q hp k => W_pickT hp hne hml fun d p' hp' hd => by
      obtain ⟨r, hr, rfl⟩ := List.mem_map.mp hd
      exact k r p' hp' ((allS_mem h.ok).mp hr)
    simp [n0]
    refine pk p _ hp fun r p1 hp1 T => ?_
    simp [W_eq (m_two_right h S T)]
    refine pk p1 _ hp1 fun r2 p2 hp2 U => ?_
    simp [W_eq (m_three_right h S T U), hp2]
theorem rest_ok {m : Mk} (h : MOk m) {way : Int} (hw : way = 0 → (allS m).length = m.asks.length) {p : Pen} (hp : PenOk p) {s0 c2 c5 c6 c7 c8 c9 c10 c11 : Cell} : W (restBody [s0, .sh .pen, c2, .sh (.int way), .sh (two m), c5, c6, c7, c8, c9, c10, c11] p) fun o p' => PenOk p' ∧ ∃ d2 d3 d4 d5 d6 d7 d8 d9 d10 d11 : Cell, o = .nx [s0, .sh .pen, d2, d3, d4, d5, d6, d7, d8, d9, d10, d11] := by
  have h4 := h.a4
  unfold restBody
  simp [W_eq (m_made' h), W_eq (m_all_steady h)]
  refine W_asked_best h fun best hb => ?_
  refine W_answered_best h fun bm least hbm hB => ?_
  have Sl : Steady m least := Mkt.Back.steady (m := m.turn) (hbm.steady h.turn.ok) hB
  have Sb := hb.steady h.ok
  have hl : ∀ nu, Steady m nu → ∀ a, pl (m.ask a) (on nu a) ≤ pl (m.ask a) (on least a) := fun nu T a => by
    obtain ⟨bn, Bn, _⟩ := m_matching_turned h (T.valid h.ok) (p := p)
    exact best_bottom h.ok hbm hB T Bn a
  have n1 : gNotIn (oT best) (.tup ((allS m).map oT)) = some false := notin_st h Sb
  have n2 : gNotIn (oT least) (.tup ((allS m).map oT)) = some false := notin_st h Sl
  simp [setAll, n1, n2]
  refine ⟨fun hz => ⟨congrArg Int.ofNat (hw hz), fun _ => ?_⟩, fun hz => ?_⟩
  all_goals
    refine W_for (fun _ ρ p' => PenOk p' ∧ ∃ d9 d10 d11, ρ = [s0, .sh .pen, c2, .sh (.int way), .sh (two m), .sh (mkD m), .sh (stD m), .sh (oT best), .sh (oT least), d9, d10, d11]) ⟨hp, _, _, _, rfl⟩ (fun done r rest ρ p' e hI => ?_) ?_
    · obtain ⟨hp1, d9, d10, d11, rfl⟩ := hI
      have hr : Steady m r := (allS_mem h.ok).mp (by rw [e]; simp)
      refine ⟨_, rfl, ?_⟩
      refine (one_ok h hb Sl hl hr hp1).mono fun o p4 ho => ?_
      obtain ⟨hp4, e10, e11, rfl⟩ := ho
      exact ⟨hp4, _, _, _, rfl⟩
    · rintro ρ p' ⟨hp1, d9, d10, d11, rfl⟩
      simp [hp1]
theorem body_ok {p : Pen} (hp : PenOk p) {s0 c2 c3 c4 c5 c6 c7 c8 c9 c10 c11 : Cell} : W (lawBody [s0, .sh .pen, c2, c3, c4, c5, c6, c7, c8, c9, c10, c11] p) fun o p' => PenOk p' ∧ ∃ d2 d3 d4 d5 d6 d7 d8 d9 d10 d11 : Cell, o = .nx [s0, .sh .pen, d2, d3, d4, d5, d6, d7, d8, d9, d10, d11] := by
  unfold lawBody
  simp
  refine W_draw hp (by omega) (by omega) fun way p1 hp1 i0 i1 => ?_
  simp
  refine ⟨fun hz => ?_, fun hz => ⟨fun h3 => ?_, fun h3 => ?_⟩⟩
  · refine W_draw hp1 (by omega) (by omega) fun i p2 hp2 j0 j1 => ?_
    have : i = 0 ∨ i = 1 ∨ i = 2 := by omega
    rcases this with rfl | rfl | rfl
    · have e := m_ring (n := 2) (p := p2) (by omega) (by omega)
      have en : (2 : Int) + 0 = ((2 : Nat) : Int) := by omega
      rw [i_add, Ok_some, en, W_eq e]
      simp only [k_set, k_seq0, List.set_cons_succ, List.set_cons_zero]
      exact rest_ok ring_ok2 (fun _ => ring2) hp2
    · have e := m_ring (n := 3) (p := p2) (by omega) (by omega)
      have en : (2 : Int) + 1 = ((3 : Nat) : Int) := by omega
      rw [i_add, Ok_some, en, W_eq e]
      simp only [k_set, k_seq0, List.set_cons_succ, List.set_cons_zero]
      exact rest_ok ring_ok3 (fun _ => ring3) hp2
    · have e := m_ring (n := 4) (p := p2) (by omega) (by omega)
      have en : (2 : Int) + 2 = ((4 : Nat) : Int) := by omega
      rw [i_add, Ok_some, en, W_eq e]
      simp only [k_set, k_seq0, List.set_cons_succ, List.set_cons_zero]
      exact rest_ok ring_ok4 (fun _ => ring4) hp2
  · refine W_full hp1 fun m p2 hp2 hm => ?_
    simp
    exact rest_ok hm (fun z => absurd z hz) hp2
  · refine W_drawn_market hp1 fun m p2 hp2 hm => ?_
    simp
    exact rest_ok hm (fun z => absurd z hz) hp2
theorem math (ns : List Int) (h63 : ns.length ≤ 63) : LawN.lawMeans ns := by
  have key : W (s_law (lawEnv 12 1) (pen0 ns)) fun o _ => o = .rt (.bl true) := by
    have e4 : rngOk (.int 3) = some ((List.range 3).map ni) := rng_n (n := 3) (by omega)
    rw [s_law_cut, w_seq, w_for, w_rng1, w_c, e4, Ok_some, k_for]
    refine W_for (fun _ ρ p' => PenOk p' ∧ ∃ c2 c3 c4 c5 c6 c7 c8 c9 c10 c11 : Cell, ρ = [.no, .sh .pen, c2, c3, c4, c5, c6, c7, c8, c9, c10, c11]) ⟨Int.le_refl 0, _, _, _, _, _, _, _, _, _, _, rfl⟩ (fun done x rest ρ p' _ hI => ?_) ?_
    · obtain ⟨hp3, c2, c3, c4, c5, c6, c7, c8, c9, c10, c11, rfl⟩ := hI
      refine ⟨_, rfl, ?_⟩
      refine (body_ok hp3).mono fun o p4 ho => ?_
      obtain ⟨hp4, c2, c3, c4, c5, c6, c7, c8, c9, c10, c11, rfl⟩ := ho
      exact ⟨hp4, _, _, _, _, _, _, _, _, _, _, rfl⟩
    · rintro ρ p' ⟨hp3, c2, c3, c4, c5, c6, c7, c8, c9, c10, c11, rfl⟩
      simp
  obtain ⟨o, p, e, rfl⟩ := key
  exact ⟨p, e⟩
end LawN
theorem PySem.Challenge.cw_honestrules_k75_steady_matchings_are_a_l_holds : PySem.Challenge.rw_honestrules_k75_steady_matchings_are_a_l.Holds :=
  LawN.finish LawN.math
