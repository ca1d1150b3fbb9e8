import PyProof.Rows.All
import Wide.All
import OpenK.AllK
import Wide.FinOn
import HandS.ForMost
import HandS.IsInst
import HandS.Walk
import HandS.Style
import HandS.TupAny
import HandS.TupMul
import HandS.Conv
import HandS.Wide
import HandS.Deep
import HandS.SortInts
import PyProof.WalksMore
import PyProof.ReprRoads
import PyProof.CallFns
import KE.GoesZip
import KE.GoesMore
import KE.GoesEnum
import KE.GoesEnumKw
import HandS.Defaults
import HandS.Head0
import HandS.Head1
import HandS.Head2
import HandS.HeadEnd
import HandS.HeadHook1
import HandS.HeadHook2
import PyProof.ReprLen
import PyProof.Rows.ReprOcc
import HandS.WideMore
import HandS.TupLe
import KE.SortData
import HandS.More
import KE.DataMinMax
import HandS.SetFor
import HandS.TupSets
import KE.KeyNested
import HandS.SetKeys
import KE.KIndexOf
import KE.DataFind
import HandS.Strs
import PySem.Challenge.RW_priceplans_k84_choices_and_answers
import HandS.Codes
set_option Elab.async false
set_option linter.all false
set_option maxRecDepth 100000
set_option maxHeartbeats 2000000
namespace Dk
open PySem PySem.Spec PyProof.Rows L2
def tObj (a : Array Value) : Obj := { cls := .type "tuple", data := .seq a }
def NewT (H : Hp) (Q : VK) (vs : List V) : Prop := ∀ (p : Addr) (o : Obj), H p = none → o.dict = none → Q (.ref p) (upd H p (.frz o (.tup vs)))
section
variable {X : Cx} {pins : List (Addr × Obj)} {σ : L2.St} {H : Hp} {Q : VK} {vs : List V}
theorem laidC {hp : Heap} {gl d os t1} {t2 : Nat} {a : Array Value} (J : L2.Inv X pins σ H ⟨hp, gl, d, t1, os⟩) (rv : Vals vs a.toList) (z : vs.length ≤ sizeLine) (q : NewT H Q vs) :
    L2.EP X pins σ Q (.ref hp.objs.size) ⟨hp.push (tObj a), gl, d, t2, os⟩ := by
  refine ⟨.ref hp.objs.size, _, J.laid (o := .frz (tObj a) (.tup vs)) (t' := t2) (h' := hp.push (tObj a)) (fun b o e => Heap.get?_push_of_some _ e) (Nat.le_refl _) ?_, rfl, q _ _ (J.hok.fresh (Nat.le_refl _)) rfl⟩
  exact ⟨Heap.get?_push_size _ rfl, z, a.toList, rv, _, Heap.get?_push_size _ rfl, rfl, 0, by rw [Array.toArray_toList]; rfl⟩
end
section
variable {X : Cx} {es : List Expr} {t : TA} {pos : Pos}
def tTupC (t : TA) : TE := fun σ H Q => t σ H fun xs H1 => xs.length ≤ sizeLine ∧ NewT H1 Q xs
theorem pe_tupC {x1} (h : PA X es t) : PE X (.Tuple es x1 pos) (tTupC t) := ⟨fun pins s σ H Q I hq =>
  wpAny_Tuple_spliced (thn (h.run pos pins s σ H _ I hq) fun us s1 ⟨xs, H1, J, rv, z, q⟩ => ⟨by have := rv.length; omega, laidC (a := us.toArray) J (by simpa using rv) z q⟩)⟩
def rCatC (K : PySem.W.Frag) : R2 := fun x y H Q => ∃ a b xs ys, x = .ref a ∧ y = .ref b ∧ SqT K H a xs ∧ SqT K H b ys ∧ xs.length + ys.length ≤ sizeLine ∧ (xs = [] → Q (.ref b) H) ∧ (xs ≠ [] → ys = [] → Q (.ref a) H) ∧ NewT H Q (xs ++ ys)
theorem op_catC : OpR X (binaryOp .Add) (rCatC X.K) := by
  intro pins s σ H x y v u Q I rx ry h
  obtain ⟨a, b, xs, ys, ex, ey, qa, qb, z, h1, h2, h3⟩ := h
  by_cases c1 : xs = []
  · exact op_catA pins s σ H x y v u Q I rx ry ⟨a, b, xs, ys, ex, ey, qa, qb, z, h1, h2, fun n _ => absurd c1 n⟩
  by_cases c2 : ys = []
  · exact op_catA pins s σ H x y v u Q I rx ry ⟨a, b, xs, ys, ex, ey, qa, qb, z, h1, h2, fun _ n => absurd c2 n⟩
  subst ex ey
  obtain rfl : v = .ref a := rx
  obtain rfl : u = .ref b := ry
  obtain ⟨is, ra, ta, _⟩ := I.tuple qa
  obtain ⟨js, rb, tb, _⟩ := I.tuple qb
  refine HT.cat_tup ta tb (fun n => c1 (ra.nil_iff.mp n)) (fun n => absurd (rb.nil_iff.mp n) c2) (fun _ => ?_) (by have := ra.length; have := rb.length; omega)
  exact laidC (a := (is ++ js).toArray) I (ra.append rb) (by rw [List.length_append]; exact z) h3
def rSlC (K : PySem.W.Frag) : V → Option Int → Option Int → Hp → VK → Prop := fun x lo hi H Q => ∃ a xs, x = .ref a ∧ SqT K H a xs ∧
  (HT.sIx xs.length 0 lo = 0 ∧ HT.sIx xs.length xs.length hi = xs.length → Q (.ref a) H) ∧ NewT H Q (cutV xs lo hi)
theorem sl_tupC : SlR X (rSlC X.K) := by
  intro pins s σ H x v vl vu lo hi sl Q I rx hs pl pu h
  obtain ⟨a, xs, ex, qa, h1, h2⟩ := h
  by_cases c : HT.sIx xs.length 0 lo = 0 ∧ HT.sIx xs.length xs.length hi = xs.length
  · exact sl_tupA pins s σ H x v vl vu lo hi sl Q I rx hs pl pu ⟨a, xs, ex, qa, h1, fun n => absurd c n⟩
  subst ex
  obtain rfl : v = .ref a := rx
  obtain ⟨is, ra, ta, z⟩ := I.tuple qa
  have el : is.toArray.size = xs.length := by have := ra.length; simp; omega
  refine ⟨"tuple", _, PyProof.Rows.slot_tuple_getitem.lookup, ta.typeIs, HT.getItem_tuple_cut ta hs pl pu (by rw [el]; exact c) ?_ (by rw [el]; exact z)⟩
  rw [el]
  exact laidC I ((ra.drop _).take _) (Nat.le_trans (cutV_length xs lo hi) z) h2
def rTupC (K : PySem.W.Frag) : List V → Hp → VK → Prop := fun xs H Q => ∃ p ys, xs = [.ref p] ∧ ((SqL K H p ys ∧ NewT H Q ys) ∨ (SqT K H p ys ∧ Q (.ref p) H))
theorem call_tupC : CallR X (.type "tuple") (rTupC X.K) := by
  intro pins s σ H xs us Q I r h
  obtain ⟨p, ys, ex, h⟩ := h
  rcases h with ⟨qa, q⟩ | h
  · subst ex
    obtain ⟨u, eu, ru⟩ := vals1 r
    subst eu
    obtain rfl : u = .ref p := ru
    obtain ⟨is, ra, pl, z⟩ := I.list qa
    refine call_tuple_list pl.isList (fun h' kp => ?_) (by have := ra.length; simp; omega)
    exact laidC (a := is.toArray) (I.kept (t' := s.toks) kp) (by simpa using ra) z q
  · exact call_tuple_of pins s σ H xs us Q I r ⟨p, ys, ex, .inr h⟩
def tTupRgC (te : L2.St → Hp → (Int → Int → Hp → Prop) → Prop) : TE := fun σ H Q => te σ H fun a b H1 => RgOk a b ∧ NewT H1 Q (rgV a b)
theorem pe_tupRgC {e : Expr} {te : L2.St → Hp → (Int → Int → Hp → Prop) → Prop} {p pos : Pos} (hc : X.calm = true) (hg : Gl X "tuple") (hm : X.mg "tuple" = none) (he : PRg X e te) (na : starEach [e] X.env = (false, eval e X.env) :: starEach [] X.env := by rfl) : PE X (.Call (.Name "tuple" p) [e] [] pos) (tTupRgC te) := ⟨fun pins s σ H Q I h => by
  refine Call_ (ld_blt I hg hm boot_tuple (PyProof.Rows.callWith_type1 (args_cons (thn (he pins s σ H _ I h) fun x s1 ⟨r, a, b, t, u, v, H1, ex, hr, J, ok, q⟩ => args_nil ?_) na) na))
  subst ex
  have ok' := ok
  obtain ⟨g1, g2, g3, g4, g5⟩ := ok'
  exact call_tuple_range (n := (b - a).toNat) (J.ok.hd hc) hr (small_one g1 g2 g3 g4) (rangeSize_nat a b) g5 fun h' tk acc kp hi => laidC (t2 := tk) (J.kept (t' := tk) kp) (vals_rg hi) (by rw [rgV_length, sizeLine_eq]; omega) q⟩
theorem op_repC : OpR X (binaryOp .Mult) (fun x y H Q => ∃ l k xs, x = .ref l ∧ y = .int k ∧ SqT X.K H l xs ∧ xs ≠ [] ∧ 2 ≤ k ∧ k ≤ 1000 ∧ xs.length ≤ 1000 ∧ NewT H Q (List.replicate k.toNat xs).flatten) := by
  intro pins s σ H x y v u Q I rx ry ⟨l, k, xs, ex, ey, qa, ne, k2, kk, zx, q⟩
  subst ex ey
  obtain rfl : v = .ref l := rx
  obtain ⟨t, rfl⟩ := ry
  obtain ⟨is, ra, ⟨⟨c, dd, da, sl⟩, ho, (hc : c = _), n, (hd : da = _)⟩, _⟩ := I.tuple qa
  subst hc hd
  have el : is.length = xs.length := ra.length.symm
  have es : is.toArray.size = xs.length := by simp [el]
  have e0 : is.toArray.isEmpty = false := by
    cases is with
    | nil => exact absurd (List.eq_nil_of_length_eq_zero el.symm) ne
    | cons _ _ => rfl
  have mk : k.toNat * xs.length ≤ 1000000 := Nat.le_trans (Nat.mul_le_mul (show k.toNat ≤ 1000 by omega) zx) (by omega)
  have mz : ((is.toArray.size : Nat) : Int) * k ≤ 1000000 := by
    rw [es, show k = ((k.toNat : Nat) : Int) by omega, ← Int.natCast_mul, Nat.mul_comm]
    exact Int.ofNat_le.mpr mk
  have fl : (List.replicate k.toNat is).flatten.length ≤ sizeLine := by
    rw [PyProof.Rows.lm_len_rep_flat, el, sizeLine_eq]; omega
  have b1 : (is.toArray.isEmpty || k == 1) = false := by simp only [e0, Bool.false_or, beq_eq_false_iff_ne, ne_eq]; omega
  have b2 : (decide (k ≤ 0) || is.toArray.isEmpty) = false := by simp only [e0, Bool.or_false, decide_eq_false_iff_not]; omega
  have b0 : (decide (k < -(2 ^ 63)) || decide (k ≥ 2 ^ 63)) = false := by
    simp only [Bool.or_eq_false_iff, decide_eq_false_iff_not]; omega
  have b4 : Builtin.Tuple.tupleTooMany (((is.toArray.size : Nat) : Int) * k) = false := by
    unfold Builtin.Tuple.tupleTooMany
    simp only [sizeLine_eq, decide_eq_false_iff_not]; omega
  have W := tuple_mulW l is.toArray n dd sl k t b0 b1 b2 (by omega) b4 (by rw [size_rep, List.size_toArray]; exact fl)
  refine wpAny_binaryOp_repeat_ref (T := "tuple") (U := "int") (by decide) ⟨_, ho, rfl⟩ (fun s' => typeIs_int s' k t) noFill_tuple_mul F.fills_int_mul F.slot_int_rmul repeat_tuple F.slot_int_index.lookup ?_
  refine call_meets F.slot_int_rmul (typeIs_int s k t) F.entry_int_rmul (F.args_int_rmul_2 _ _) (int_rmul_tuple k t l is.toArray n dd sl) ⟨ho, rfl, ⟨_, ho, rfl⟩, ?_⟩
  refine call_meets F.slot_tuple_mul ⟨_, ho, rfl⟩ F.entry_tuple_mul (F.args_tuple_mul_2 _ _) W ⟨ho, ?_⟩
  rw [size_rep]
  exact laidC (a := (List.replicate k.toNat is).flatten.toArray) I (by simpa using ra.rep k.toNat) (by rw [← ra.rep k.toNat |>.length] at fl; exact fl) q
end
end Dk
namespace Dk
open PySem PySem.Spec PyProof.Rows L2
abbrev D := PyData
abbrev Fg := PySem.W.Frag
def Le (F G : Hp) : Prop := ∀ a o, F a = some o → G a = some o
theorem Le.refl (F : Hp) : Le F F := fun _ _ h => h
theorem Le.trans {F G H : Hp} (a : Le F G) (b : Le G H) : Le F H := fun x o h => b x o (a x o h)
theorem Le.rd {F G : Hp} (e : Le F G) {a : Addr} {u : HO} (h : Rd F a u) : Rd G a u := by
  rcases h with h | ⟨o, h⟩
  · exact .inl (e _ _ h)
  · exact .inr ⟨o, e _ _ h⟩
theorem Le.l {K : Fg} {F G : Hp} (e : Le F G) {a : Addr} {xs : List V} (h : SqL K F a xs) : SqL K G a xs := by
  rcases h with h | h
  · exact .inl (e.rd h)
  · exact .inr h
theorem Le.t {K : Fg} {F G : Hp} (e : Le F G) {a : Addr} {xs : List V} (h : SqT K F a xs) : SqT K G a xs := by
  rcases h with h | h
  · exact .inl (e.rd h)
  · exact .inr h
def CqT (K : Fg) (F : Hp) (a : Addr) (vs : List V) : Prop := (∃ o, F a = some (.frz o (.tup vs)) ∧ o.dict = none) ∨
  ∃ (o : Obj) (its : Array Value) (n : Nat), K.lookup a = some o ∧ (o.cls = .type "tuple" ∧ o.dict = none) ∧ o.data = .seq its n ∧ its.size ≤ sizeLine ∧ Vals vs its.toList
theorem CqT.sq {K : Fg} {F : Hp} {a : Addr} {vs : List V} (h : CqT K F a vs) : SqT K F a vs := by
  rcases h with ⟨o, h, _⟩ | ⟨o, its, n, h1, h2, h3, h4, h5⟩
  · exact .inl (.inr ⟨o, h⟩)
  · exact .inr ⟨o, its, n, h1, h2.1, h3, h4, h5⟩
theorem Le.ct {K : Fg} {F G : Hp} (e : Le F G) {a : Addr} {vs : List V} (h : CqT K F a vs) : CqT K G a vs := by
  rcases h with ⟨o, h, g⟩ | h
  · exact .inl ⟨o, e _ _ h, g⟩
  · exact .inr h
def Szs (H : Hp) : Prop := ∀ a xs, H a = some (.lst xs) ∨ (∃ o, H a = some (.frz o (.lst xs))) ∨ H a = some (.tup xs) ∨ (∃ o, H a = some (.frz o (.tup xs))) → xs.length ≤ sizeLine
theorem Szs.t {K : Fg} {H : Hp} (z : Szs H) {a : Addr} {xs : List V} (h : SqT K H a xs) : xs.length ≤ sizeLine := by
  rcases h with (h | ⟨o, h⟩) | ⟨o, its, n, _, _, _, h, r⟩
  · exact z a xs (.inr (.inr (.inl h)))
  · exact z a xs (.inr (.inr (.inr ⟨o, h⟩)))
  · have := r.length
    simp at this
    omega
theorem Szs.l {H : Hp} (z : Szs H) {a : Addr} {xs : List V} (h : H a = some (.lst xs)) : xs.length ≤ sizeLine := z a xs (.inl h)
theorem Szs.upL {H : Hp} (z : Szs H) {p : Addr} {vs : List V} (h : vs.length ≤ sizeLine) : Szs (upd H p (.lst vs)) := fun a xs q => by
  by_cases e : a = p
  · subst e
    rw [upd_same] at q
    rcases q with q | ⟨o, q⟩ | q | ⟨o, q⟩ <;> cases q
    exact h
  · rw [upd_ne e] at q
    exact z a xs q
theorem Szs.upT {H : Hp} (z : Szs H) {p : Addr} {vs : List V} (h : vs.length ≤ sizeLine) : Szs (upd H p (.tup vs)) := fun a xs q => by
  by_cases e : a = p
  · subst e
    rw [upd_same] at q
    rcases q with q | ⟨o, q⟩ | q | ⟨o, q⟩ <;> cases q
    exact h
  · rw [upd_ne e] at q
    exact z a xs q
theorem Szs.upC {H : Hp} (z : Szs H) {p : Addr} {o : Obj} {vs : List V} (h : vs.length ≤ sizeLine) : Szs (upd H p (.frz o (.tup vs))) := fun a xs q => by
  by_cases e : a = p
  · subst e
    rw [upd_same] at q
    rcases q with q | ⟨o, q⟩ | q | ⟨o, q⟩ <;> cases q
    exact h
  · rw [upd_ne e] at q
    exact z a xs q
theorem Szs.upD {H : Hp} (z : Szs H) {p : Addr} : Szs (upd H p (.dK [])) := fun a xs q => by
  by_cases e : a = p
  · subst e
    rw [upd_same] at q
    rcases q with q | ⟨o, q⟩ | q | ⟨o, q⟩ <;> cases q
  · rw [upd_ne e] at q
    exact z a xs q
theorem szs_of {P : Program} {w : World} {H : Hp} {h : Heap} (x : HOk P w H h) : Szs H := fun a xs q => by
  rcases q with q | ⟨o, q⟩ | q | ⟨o, q⟩
  · exact (x a _ q).1
  · exact (x a _ q).2.1
  · exact (x a _ q).1
  · exact (x a _ q).2.1
mutual
def DR (K : Fg) (F : Hp) : D → V → Prop
  | .none, v => v = .non
  | .bool b, v => v = .bl b
  | .int i, v => v = .int i
  | .str x, v => v = .str x
  | .list ds, v => ∃ a vs, v = .ref a ∧ F a = some (.lst vs) ∧ DRs K F ds vs
  | .tuple ds, v => ∃ a vs, v = .ref a ∧ CqT K F a vs ∧ DRs K F ds vs
  | .dict kvs, v => ∃ a, v = .ref a ∧ kvs = [] ∧ F a = some (.dK [])
def DRs (K : Fg) (F : Hp) : List D → List V → Prop
  | [], vs => vs = []
  | d :: ds, vs => ∃ v r, vs = v :: r ∧ DR K F d v ∧ DRs K F ds r
end
section
variable {K : Fg} {F G H : Hp}
mutual
theorem DR.mono (e : Le F G) : ∀ (d : D) (v : V), DR K F d v → DR K G d v
  | .none, v, h => by unfold DR at h ⊢; exact h
  | .bool b, v, h => by unfold DR at h ⊢; exact h
  | .int i, v, h => by unfold DR at h ⊢; exact h
  | .str x, v, h => by unfold DR at h ⊢; exact h
  | .list ds, v, h => by
    unfold DR at h ⊢
    obtain ⟨a, vs, h1, h2, h3⟩ := h
    exact ⟨a, vs, h1, e _ _ h2, DRs.mono e ds vs h3⟩
  | .tuple ds, v, h => by
    unfold DR at h ⊢
    obtain ⟨a, vs, h1, h2, h3⟩ := h
    exact ⟨a, vs, h1, e.ct h2, DRs.mono e ds vs h3⟩
  | .dict kvs, v, h => by
    unfold DR at h ⊢
    obtain ⟨a, h1, h2, h3⟩ := h
    exact ⟨a, h1, h2, e _ _ h3⟩
theorem DRs.mono (e : Le F G) : ∀ (ds : List D) (vs : List V), DRs K F ds vs → DRs K G ds vs
  | [], vs, h => by unfold DRs at h ⊢; exact h
  | d :: ds, vs, h => by
    unfold DRs at h ⊢
    obtain ⟨v, r, h1, h2, h3⟩ := h
    exact ⟨v, r, h1, DR.mono e d v h2, DRs.mono e ds r h3⟩
end
theorem DR.non_ {v : V} : DR K F .none v ↔ v = .non := by unfold DR; exact Iff.rfl
theorem DR.bl_ {b : Bool} {v : V} : DR K F (.bool b) v ↔ v = .bl b := by unfold DR; exact Iff.rfl
theorem DR.int_ {i : Int} {v : V} : DR K F (.int i) v ↔ v = .int i := by unfold DR; exact Iff.rfl
theorem DR.str_ {x : Str} {v : V} : DR K F (.str x) v ↔ v = .str x := by unfold DR; exact Iff.rfl
theorem DR.list_ {ds : List D} {v : V} : DR K F (.list ds) v ↔ ∃ a vs, v = .ref a ∧ F a = some (.lst vs) ∧ DRs K F ds vs := by
  conv => lhs; unfold DR
theorem DR.tupC_ {ds : List D} {v : V} : DR K F (.tuple ds) v ↔ ∃ a vs, v = .ref a ∧ CqT K F a vs ∧ DRs K F ds vs := by
  conv => lhs; unfold DR
theorem DR.tuple_s {ds : List D} {v : V} (h : DR K F (.tuple ds) v) : ∃ a vs, v = .ref a ∧ SqT K F a vs ∧ DRs K F ds vs := by
  obtain ⟨a, vs, e, h1, h2⟩ := DR.tupC_.mp h
  exact ⟨a, vs, e, h1.sq, h2⟩
theorem DR.dict_ {kvs : List (D × D)} {v : V} : DR K F (.dict kvs) v ↔ ∃ a, v = .ref a ∧ kvs = [] ∧ F a = some (.dK []) := by
  conv => lhs; unfold DR
theorem DRs.nil_ {vs : List V} : DRs K F [] vs ↔ vs = [] := by unfold DRs; exact Iff.rfl
theorem DRs.cons_ {d : D} {ds : List D} {vs : List V} : DRs K F (d :: ds) vs ↔ ∃ v r, vs = v :: r ∧ DR K F d v ∧ DRs K F ds r := by
  conv => lhs; unfold DRs
theorem DRs.nil : DRs K F [] [] := DRs.nil_.mpr rfl
theorem DRs.cons {d : D} {ds : List D} {v : V} {vs : List V} (h : DR K F d v) (r : DRs K F ds vs) : DRs K F (d :: ds) (v :: vs) := DRs.cons_.mpr ⟨v, vs, rfl, h, r⟩
theorem DRs.len : ∀ {ds : List D} {vs : List V}, DRs K F ds vs → vs.length = ds.length
  | [], vs, h => by rw [DRs.nil_.mp h]; rfl
  | d :: ds, vs, h => by
    obtain ⟨v, r, rfl, _, h3⟩ := DRs.cons_.mp h
    rw [List.length_cons, List.length_cons, DRs.len h3]
theorem DRs.get : ∀ {ds : List D} {vs : List V} {i : Nat} {d : D}, DRs K F ds vs → ds[i]? = some d → ∃ v, vs[i]? = some v ∧ DR K F d v
  | [], vs, i, d, h, e => by simp at e
  | c :: ds, vs, 0, d, h, e => by
    obtain ⟨v, r, rfl, h2, _⟩ := DRs.cons_.mp h
    simp at e
    subst e
    exact ⟨v, rfl, h2⟩
  | c :: ds, vs, i + 1, d, h, e => by
    obtain ⟨v, r, rfl, _, h3⟩ := DRs.cons_.mp h
    obtain ⟨u, h1, h2⟩ := DRs.get (i := i) h3 (by simpa using e)
    exact ⟨u, by simpa using h1, h2⟩
theorem DRs.append : ∀ {ds es : List D} {vs us : List V}, DRs K F ds vs → DRs K F es us → DRs K F (ds ++ es) (vs ++ us)
  | [], es, vs, us, h, g => by rw [DRs.nil_.mp h]; exact g
  | d :: ds, es, vs, us, h, g => by
    obtain ⟨v, r, rfl, h2, h3⟩ := DRs.cons_.mp h
    exact .cons h2 (h3.append g)
theorem DRs.take : ∀ {ds : List D} {vs : List V} (n : Nat), DRs K F ds vs → DRs K F (ds.take n) (vs.take n)
  | ds, vs, 0, h => by simp; exact .nil
  | [], vs, n + 1, h => by rw [DRs.nil_.mp h]; exact .nil
  | d :: ds, vs, n + 1, h => by
    obtain ⟨v, r, rfl, h2, h3⟩ := DRs.cons_.mp h
    exact .cons h2 (h3.take n)
theorem DRs.drop : ∀ {ds : List D} {vs : List V} (n : Nat), DRs K F ds vs → DRs K F (ds.drop n) (vs.drop n)
  | ds, vs, 0, h => h
  | [], vs, n + 1, h => by rw [DRs.nil_.mp h]; exact .nil
  | d :: ds, vs, n + 1, h => by
    obtain ⟨v, r, rfl, h2, h3⟩ := DRs.cons_.mp h
    exact h3.drop n
theorem DRs.set : ∀ {ds : List D} {vs : List V} (n : Nat) {d : D} {v : V}, DRs K F ds vs → DR K F d v → DRs K F (ds.set n d) (vs.set n v)
  | [], vs, n, d, v, h, g => by rw [DRs.nil_.mp h]; exact .nil
  | c :: ds, vs, 0, d, v, h, g => by
    obtain ⟨u, r, rfl, h2, h3⟩ := DRs.cons_.mp h
    exact .cons g h3
  | c :: ds, vs, n + 1, d, v, h, g => by
    obtain ⟨u, r, rfl, h2, h3⟩ := DRs.cons_.mp h
    exact .cons h2 (h3.set n g)
theorem DRs.reverse : ∀ {ds : List D} {vs : List V}, DRs K F ds vs → DRs K F ds.reverse vs.reverse
  | [], vs, h => by rw [DRs.nil_.mp h]; exact .nil
  | d :: ds, vs, h => by
    obtain ⟨v, r, rfl, h2, h3⟩ := DRs.cons_.mp h
    rw [List.reverse_cons, List.reverse_cons]
    exact h3.reverse.append (.cons h2 .nil)
theorem DRs.eraseIdx : ∀ {ds : List D} {vs : List V} (n : Nat), DRs K F ds vs → DRs K F (ds.eraseIdx n) (vs.eraseIdx n)
  | [], vs, n, h => by rw [DRs.nil_.mp h]; exact .nil
  | d :: ds, vs, 0, h => by
    obtain ⟨v, r, rfl, h2, h3⟩ := DRs.cons_.mp h
    exact h3
  | d :: ds, vs, n + 1, h => by
    obtain ⟨v, r, rfl, h2, h3⟩ := DRs.cons_.mp h
    exact .cons h2 (h3.eraseIdx n)
theorem DRs.rep {ds : List D} {vs : List V} (h : DRs K F ds vs) : ∀ n : Nat, DRs K F (List.replicate n ds).flatten (List.replicate n vs).flatten
  | 0 => .nil
  | n + 1 => by
    rw [List.replicate_succ, List.replicate_succ, List.flatten_cons, List.flatten_cons]
    exact h.append (h.rep n)
theorem DRs.ints : ∀ {ns : List Int} {vs : List V}, DRs K F (ns.map .int) vs → vs = ns.map V.int
  | [], vs, h => DRs.nil_.mp h
  | n :: ns, vs, h => by
    obtain ⟨u, r, rfl, h2, h3⟩ := DRs.cons_.mp h
    rw [DR.int_.mp h2, DRs.ints h3]
    rfl
theorem DRs.of_ints : ∀ (ns : List Int), DRs K F (ns.map .int) (ns.map V.int)
  | [] => .nil
  | n :: ns => .cons (DR.int_.mpr rfl) (DRs.of_ints ns)
end
structure Pen where
  cells : List Int
  at_ : Int
  cur : Int
inductive Sl where
  | un | val (d : D) | own (xs : List D) | bor (xs : List D) | pen | scr (ns : List Int) | ref (a : Addr)
structure Bs where
  H0 : Hp
  F0 : Hp
  M : Addr → Prop
structure Tag where
  H0 : Hp
  F0 : Hp
  M : Addr → Prop
  pa : Option Addr
class StK (S : Type) where
  look : S → Addr → Option (List D)
  tag : S → Option Tag
  R : Fg → Option Addr → Hp → Hp → S → (Addr → Prop) → Prop
  frame : ∀ {K : Fg} {pa : Option Addr} {H F H' F' : Hp} {s : S} {T : Addr → Prop}, R K pa H F s T → (∀ b, T b → H' b = H b) → Le F F' → (∀ b, T b → F' b = none) → R K pa H' F' s T
  seen : ∀ {K : Fg} {pa : Option Addr} {H F : Hp} {s : S} {T : Addr → Prop} {b : Addr} {xs : List D}, R K pa H F s T → look s b = some xs → ∃ vs, H b = some (.lst vs) ∧ DRs K F xs vs
def ScrR (K : Fg) (H : Hp) (T : Addr → Prop) (a : Addr) (ns : List Int) : Prop := (Rd H a (.lst (ns.map .int)) ∧ ¬ T a) ∨ SqL K (fun _ => none) a (ns.map .int)
def SlotR (K : Fg) (B : Bs) (pa : Option Addr) (H F : Hp) : Sl → Option V → Prop
  | .un, _ => True
  | .val d, o => ∃ v, o = some v ∧ DR K F d v
  | .own xs, o => ∃ a vs, o = some (.ref a) ∧ H a = some (.lst vs) ∧ DRs K F xs vs ∧ F a = none ∧ B.H0 a = none
  | .bor xs, o => ∃ a vs, o = some (.ref a) ∧ B.H0 a = some (.lst vs) ∧ DRs K F xs vs ∧ ¬ B.M a
  | .pen, o => ∃ a, pa = some a ∧ o = some (.ref a)
  | .scr ns, o => ∃ a, o = some (.ref a) ∧ ScrR K B.H0 B.M a ns
  | .ref a, o => o = some (.ref a)
structure StR {S : Type} [StK S] (K : Fg) (B : Bs) (pa : Option Addr) (zs : List (Option V)) (H F : Hp) (ws : List Sl) (pn : S) (T : Addr → Prop) : Prop where
  r : StK.R K pa H F pn T
  hn : ∀ b, T b → H b ≠ none
  fn : ∀ b, T b → F b = none
  bs : ∀ b, T b → B.H0 b = none ∨ B.M b
  ap : ∀ (i : Nat) (xs : List D) (a : Addr), ws[i]? = some (.own xs) → zs[i]? = some (some (.ref a)) → ¬ T a
def TagOk (r : Tag) (B : Bs) (pa : Option Addr) (F : Hp) : Prop := r.pa = pa ∧ r.H0 = B.H0 ∧ r.M = B.M ∧ Le r.F0 F ∧ ∀ b o, F b = some o → r.F0 b = some o ∨ B.H0 b = none ∨ B.M b
theorem TagOk.grow {r : Tag} {B : Bs} {pa : Option Addr} {F F' : Hp} (h : TagOk r B pa F) (hF : Le F F') (hfr : ∀ b o, F' b = some o → F b = some o ∨ B.H0 b = none ∨ B.M b) : TagOk r B pa F' :=
  ⟨h.1, h.2.1, h.2.2.1, h.2.2.2.1.trans hF, fun b o e => (hfr b o e).elim (h.2.2.2.2 b o) .inr⟩
class NoTag (S : Type) [StK S] : Prop where
  no : ∀ s : S, StK.tag s = none
structure Rel {S : Type} [StK S] (K : Fg) (B : Bs) (pa : Option Addr) (zs : List (Option V)) (H F : Hp) (ws : List Sl) (pn : S) : Prop where
  len : zs.length = ws.length
  fh : Le F H
  base : ∀ b o, B.H0 b = some o → ¬ B.M b → H b = some o
  f0 : Le B.F0 F
  fr : ∀ b o, F b = some o → B.F0 b = some o ∨ B.H0 b = none ∨ B.M b
  sl : ∀ (i : Nat) (s : Sl), ws[i]? = some s → ∃ o, zs[i]? = some o ∧ SlotR K B pa H F s o
  inj : ∀ (i j : Nat) (xs ys : List D) (a : Addr), ws[i]? = some (.own xs) → ws[j]? = some (.own ys) → zs[i]? = some (some (.ref a)) → zs[j]? = some (some (.ref a)) → i = j
  st : ∃ T, StR K B pa zs H F ws pn T
  pal : ∀ b, B.M b → H b ≠ none
  sz : Szs H
  tg : ∀ r, StK.tag pn = some r → TagOk r B pa F
section
variable {S : Type} [StK S] {K : Fg} {B : Bs} {pa : Option Addr} {zs : List (Option V)} {H F H' F' : Hp} {ws : List Sl} {pn pn' : S} {v : V} {d : D} {s : Sl} {o : Option V} {xs ys : List D} {p : Addr} {i : Nat} {T T' : Addr → Prop}
theorem ScrR.sq {a : Addr} {ns : List Int} {M : Addr → Prop} (h : ScrR K H M a ns) : SqL K H a (ns.map .int) := by
  rcases h with ⟨h, _⟩ | h
  · exact .inl h
  · rcases h with (h | ⟨o, h⟩) | h
    · exact nomatch h
    · exact nomatch h
    · exact .inr h
theorem get_app {α : Type} {l : List α} {x : α} {i : Nat} {y : α} (h : (l ++ [x])[i]? = some y) : l[i]? = some y ∨ (i = l.length ∧ x = y) := by
  by_cases hi : i < l.length
  · rw [List.getElem?_append_left hi] at h
    exact .inl h
  · rw [List.getElem?_append_right (by omega)] at h
    by_cases e : i = l.length
    · subst e
      simp at h
      exact .inr ⟨rfl, h⟩
    · rw [List.getElem?_eq_none (by simp; omega)] at h
      cases h
theorem app_get {α : Type} {l : List α} {x : α} {i : Nat} {y : α} (h : l[i]? = some y) : (l ++ [x])[i]? = some y := by
  rw [List.getElem?_append_left (List.getElem?_eq_some_iff.mp h).1]
  exact h
theorem app_last {α : Type} (l : List α) (x : α) : (l ++ [x])[l.length]? = some x := by simp
theorem SlotR.grow (h : SlotR K B pa H F s o) (hH : ∀ xs a, s = .own xs → o = some (.ref a) → H' a = H a ∧ F' a = none) (hF : Le F F') : SlotR K B pa H' F' s o := by
  cases s with
  | un => trivial
  | val d =>
    obtain ⟨v, e, r⟩ := h
    exact ⟨v, e, r.mono hF⟩
  | own xs =>
    obtain ⟨a, vs, e, h1, h2, h3, h4⟩ := h
    obtain ⟨g1, g2⟩ := hH xs a rfl e
    exact ⟨a, vs, e, by rw [g1]; exact h1, h2.mono hF, g2, h4⟩
  | bor xs =>
    obtain ⟨a, vs, e, h1, h2, h3⟩ := h
    exact ⟨a, vs, e, h1, h2.mono hF, h3⟩
  | pen => exact h
  | scr ns => exact h
  | ref a => exact h
theorem new_none {b : Addr} {T : Addr → Prop} (hfr : ∀ b u, F' b = some u → F b = some u ∨ H b = none ∨ T b) (h1 : F b = none) (h2 : H b ≠ none) (h3 : ¬ T b) : F' b = none := by
  cases q : F' b with
  | none => rfl
  | some u =>
    rcases hfr b u q with z | z | z
    · rw [h1] at z; cases z
    · exact absurd z h2
    · exact absurd z h3
theorem Rel.called (R : Rel K B pa zs H F ws pn) (t : StR K B pa zs H F ws pn T) (hH : ∀ b u, H b = some u → ¬ T b → H' b = some u) (hF : Le F F') (hFH : Le F' H') (hfr : ∀ b u, F' b = some u → F b = some u ∨ H b = none ∨ T b)
    (hr : StK.R K pa H' F' pn' T') (hT : ∀ b, T' b → T b ∨ H b = none) (hn : ∀ b, T' b → H' b ≠ none) (hf : ∀ b, T' b → F' b = none) (hp : ∀ b, H b ≠ none → H' b ≠ none) (hz : Szs H') (ht : StK.tag pn' = StK.tag pn := by rfl) : Rel K B pa zs H' F' ws pn' := by
  have h0 : ∀ b, H b = none → B.H0 b = none := fun b z => by
    cases q : B.H0 b with
    | none => rfl
    | some w =>
      by_cases hb : B.M b
      · exact absurd z (R.pal b hb)
      · have := R.base b w q hb
        rw [z] at this; cases this
  have hown : ∀ (i : Nat) (xs : List D) (a : Addr), ws[i]? = some (.own xs) → zs[i]? = some (some (.ref a)) → H a ≠ none ∧ ¬ T a ∧ H' a = H a ∧ F' a = none := fun i xs a e1 e2 => by
    obtain ⟨o, g1, b, vs, g2, g3, _, g4, _⟩ := R.sl i _ e1
    rw [e2] at g1
    cases g1
    cases g2
    have hne : H a ≠ none := by rw [g3]; exact nofun
    have hT' := t.ap i xs a e1 e2
    exact ⟨hne, hT', by rw [hH a _ g3 hT', g3], new_none hfr g4 hne hT'⟩
  refine ⟨R.len, hFH, fun b u e n => ?_, R.f0.trans hF, fun b u e => ?_, fun i s e => ?_, R.inj, ⟨T', hr, hn, hf, fun b hb => ?_, fun i xs a e1 e2 hb => ?_⟩, fun b hb => hp b (R.pal b hb), hz, fun r er => (R.tg r (by rw [← ht]; exact er)).grow hF fun b u e => ?_⟩
  · refine hH b u (R.base b u e n) fun hb => ?_
    rcases t.bs b hb with z | z
    · rw [e] at z; cases z
    · exact n z
  · rcases hfr b u e with z | z | z
    · exact R.fr b u z
    · exact .inr (.inl (h0 b z))
    · exact .inr (t.bs b z)
  · obtain ⟨o, e1, e2⟩ := R.sl i s e
    refine ⟨o, e1, e2.grow (fun xs a h1 h2 => ?_) hF⟩
    subst h1 h2
    exact (hown i xs a e e1).2.2
  · rcases hT b hb with z | z
    · exact t.bs b z
    · exact .inl (h0 b z)
  · obtain ⟨g1, g2, _⟩ := hown i xs a e1 e2
    rcases hT a hb with z | z
    · exact g2 z
    · exact g1 z
  · rcases hfr b u e with z | z | z
    · exact .inl z
    · exact .inr (.inl (h0 b z))
    · exact .inr (t.bs b z).symm.symm
theorem Rel.grow (R : Rel K B pa zs H F ws pn) (hH : Le H H') (hF : Le F F') (hFH : Le F' H') (hfr : ∀ b u, F' b = some u → F b = some u ∨ H b = none) (hz : Szs H') : Rel K B pa zs H' F' ws pn := by
  obtain ⟨T, t⟩ := R.st
  have hn : ∀ b, H b ≠ none → H' b = H b := fun b h => by
    obtain ⟨u, e⟩ := Option.ne_none_iff_exists'.mp h
    rw [e, hH _ _ e]
  have hf : ∀ b, T b → F' b = none := fun b hb => new_none (T := fun _ => False) (fun b u e => (hfr b u e).imp id .inl) (t.fn b hb) (t.hn b hb) id
  exact R.called t (fun b u e _ => hH b u e) hF hFH (fun b u e => (hfr b u e).imp id .inl) (StK.frame t.r (fun b hb => hn b (t.hn b hb)) hF hf) (fun b hb => .inl hb) (fun b hb => by rw [hn b (t.hn b hb)]; exact t.hn b hb) hf (fun b h => by rw [hn b h]; exact h) hz rfl
theorem Rel.hnone (R : Rel K B pa zs H F ws pn) (hp : H p = none) : F p = none ∧ B.H0 p = none ∧ ¬ B.M p := by
  have hm : ¬ B.M p := fun e => R.pal p e hp
  refine ⟨?_, ?_, hm⟩
  · cases q : F p with
    | none => rfl
    | some u => rw [R.fh _ _ q] at hp; cases hp
  · cases q : B.H0 p with
    | none => rfl
    | some w => rw [R.base p w q hm] at hp; cases hp
theorem le_upd {o : HO} (hp : H p = none) : Le H (upd H p o) := fun b u e => by rw [upd_ne (ne_of_none e hp)]; exact e
theorem own_push {a : Addr} {xs : List D} (hl : zs.length = ws.length) (ho : ∀ xs, s ≠ .own xs) (sl : ∀ (i : Nat) (s : Sl), ws[i]? = some s → ∃ o, zs[i]? = some o ∧ SlotR K B pa H F s o) (e1 : (ws ++ [s])[i]? = some (.own xs)) (e2 : (zs ++ [o])[i]? = some (some (.ref a))) :
    ws[i]? = some (.own xs) ∧ zs[i]? = some (some (.ref a)) := by
  rcases get_app e1 with e | ⟨_, e⟩
  · obtain ⟨o1, q1, _⟩ := sl i _ e
    rw [app_get q1] at e2
    exact ⟨e, by rw [q1, e2]⟩
  · exact absurd e (ho _)
theorem Rel.push (R : Rel K B pa zs H F ws pn) (h : SlotR K B pa H F s o) (ho : ∀ xs, s ≠ .own xs) : Rel K B pa (zs ++ [o]) H F (ws ++ [s]) pn := by
  obtain ⟨T, t⟩ := R.st
  refine ⟨by simp [R.len], R.fh, R.base, R.f0, R.fr, fun i t e => ?_, fun i j xs ys a e1 e2 e3 e4 => ?_, ⟨T, t.r, t.hn, t.fn, t.bs, fun i xs a e1 e2 => ?_⟩, R.pal, R.sz, R.tg⟩
  · rcases get_app e with e | ⟨rfl, rfl⟩
    · obtain ⟨o', h1, h2⟩ := R.sl i t e
      exact ⟨o', app_get h1, h2⟩
    · exact ⟨o, by rw [← R.len]; exact app_last _ _, h⟩
  · obtain ⟨a1, a2⟩ := own_push R.len ho R.sl e1 e3
    obtain ⟨b1, b2⟩ := own_push R.len ho R.sl e2 e4
    exact R.inj i j xs ys a a1 b1 a2 b2
  · obtain ⟨a1, a2⟩ := own_push R.len ho R.sl e1 e2
    exact t.ap i xs a a1 a2
theorem Rel.pushVal (R : Rel K B pa zs H F ws pn) (h : DR K F d v) : Rel K B pa (zs ++ [some v]) H F (ws ++ [.val d]) pn := R.push (s := .val d) ⟨v, rfl, h⟩ fun _ => nofun
theorem Rel.pushUn (R : Rel K B pa zs H F ws pn) (o : Option V) : Rel K B pa (zs ++ [o]) H F (ws ++ [.un]) pn := R.push (s := .un) trivial fun _ => nofun
theorem Rel.pushOwn {vs : List V} (R : Rel K B pa zs H F ws pn) (hp : H p = none) (h : DRs K F xs vs) (hz : vs.length ≤ sizeLine) : Rel K B pa (zs ++ [some (.ref p)]) (upd H p (.lst vs)) F (ws ++ [.own xs]) pn := by
  obtain ⟨n1, n2, n3⟩ := R.hnone hp
  have R1 : Rel K B pa zs (upd H p (.lst vs)) F ws pn := R.grow (le_upd hp) (Le.refl _) (R.fh.trans (le_upd hp)) (fun b u e => .inl e) (R.sz.upL hz)
  have old : ∀ (k : Nat) (zz : List D) (c : Addr), ws[k]? = some (.own zz) → (zs ++ [some (.ref p)])[k]? = some (some (.ref c)) → zs[k]? = some (some (.ref c)) ∧ c ≠ p := fun k zz c e q => by
    obtain ⟨o1, q1, q2⟩ := R.sl k _ e
    rw [app_get q1] at q
    have q := Option.some.inj q
    subst q
    obtain ⟨a', vs', z1, z2, _⟩ := q2
    cases z1
    exact ⟨q1, ne_of_none z2 hp⟩
  have new : ∀ (k : Nat) (c : Addr), k = ws.length → (zs ++ [some (.ref p)])[k]? = some (some (.ref c)) → c = p := fun k c e q => by
    rw [e, ← R.len, app_last] at q
    cases q; rfl
  obtain ⟨T, t⟩ := R.st
  have tne : ∀ b, T b → b ≠ p := fun b hb z => t.hn b hb (by rw [z]; exact hp)
  have tH : ∀ b, T b → upd H p (.lst vs) b = H b := fun b hb => upd_ne (tne b hb)
  refine ⟨by simp [R.len], R1.fh, R1.base, R1.f0, R1.fr, fun i t e => ?_, fun i j xs ys a e1 e2 e3 e4 => ?_, ⟨T, StK.frame t.r tH (Le.refl _) t.fn, fun b hb => by rw [tH b hb]; exact t.hn b hb, t.fn, t.bs, fun i xs a e1 e2 hb => ?_⟩, R1.pal, R1.sz, R1.tg⟩
  · rcases get_app e with e | ⟨rfl, rfl⟩
    · obtain ⟨o', h1, h2⟩ := R1.sl i t e
      exact ⟨o', app_get h1, h2⟩
    · exact ⟨_, by rw [← R.len]; exact app_last _ _, p, vs, rfl, upd_same, h, n1, n2⟩
  · rcases get_app e1 with e1 | ⟨i1, e1⟩
    · obtain ⟨q1, q1'⟩ := old _ _ _ e1 e3
      rcases get_app e2 with e2 | ⟨j1, e2⟩
      · exact R.inj i j xs ys a e1 e2 q1 (old _ _ _ e2 e4).1
      · exact absurd (new j a j1 e4) q1'
    · rcases get_app e2 with e2 | ⟨j1, e2⟩
      · exact absurd (new i a i1 e3) (old _ _ _ e2 e4).2
      · rw [i1, j1]
  · rcases get_app e1 with e1 | ⟨i1, e1⟩
    · exact t.ap i xs a e1 (old _ _ _ e1 e2).1 hb
    · exact tne a hb (new i a i1 e2)
theorem Rel.pushTup {vs : List V} {o : Obj} (R : Rel K B pa zs H F ws pn) (hp : H p = none) (h : DRs K F xs vs) (hz : vs.length ≤ sizeLine) (ho : o.dict = none) : Rel K B pa (zs ++ [some (.ref p)]) (upd H p (.frz o (.tup vs))) (upd F p (.frz o (.tup vs))) (ws ++ [.val (.tuple xs)]) pn := by
  obtain ⟨n1, n2, n3⟩ := R.hnone hp
  have hF : Le F (upd F p (.frz o (.tup vs))) := le_upd n1
  have R1 : Rel K B pa zs (upd H p (.frz o (.tup vs))) (upd F p (.frz o (.tup vs))) ws pn := R.grow (le_upd hp) hF (fun b u e => by
    by_cases hb : b = p
    · subst hb; rw [upd_same] at e ⊢; exact e
    · rw [upd_ne hb] at e ⊢; exact R.fh _ _ e) (fun b u e => by
    by_cases hb : b = p
    · subst hb; exact .inr hp
    · rw [upd_ne hb] at e; exact .inl e) (R.sz.upC hz)
  exact R1.pushVal (DR.tupC_.mpr ⟨p, vs, rfl, .inl ⟨o, upd_same, ho⟩, h.mono hF⟩)
theorem Rel.pushDict (R : Rel K B pa zs H F ws pn) (hp : H p = none) : Rel K B pa (zs ++ [some (.ref p)]) (upd H p (.dK [])) (upd F p (.dK [])) (ws ++ [.val (.dict [])]) pn := by
  obtain ⟨n1, n2, n3⟩ := R.hnone hp
  have hF : Le F (upd F p (.dK [])) := le_upd n1
  have R1 : Rel K B pa zs (upd H p (.dK [])) (upd F p (.dK [])) ws pn := R.grow (le_upd hp) hF (fun b u e => by
    by_cases hb : b = p
    · subst hb; rw [upd_same] at e ⊢; exact e
    · rw [upd_ne hb] at e ⊢; exact R.fh _ _ e) (fun b u e => by
    by_cases hb : b = p
    · subst hb; exact .inr hp
    · rw [upd_ne hb] at e; exact .inl e) R.sz.upD
  exact R1.pushVal (DR.dict_.mpr ⟨p, rfl, rfl, upd_same⟩)
theorem Rel.pop (R : Rel K B pa (zs ++ [o]) H F (ws ++ [s]) pn) : Rel K B pa zs H F ws pn := by
  have hl : zs.length = ws.length := by have := R.len; simp at this; omega
  obtain ⟨T, t⟩ := R.st
  refine ⟨hl, R.fh, R.base, R.f0, R.fr, fun i t e => ?_, fun i j xs ys a e1 e2 e3 e4 => R.inj i j xs ys a (app_get e1) (app_get e2) (app_get e3) (app_get e4), ⟨T, t.r, t.hn, t.fn, t.bs, fun i xs a e1 e2 => t.ap i xs a (app_get e1) (app_get e2)⟩, R.pal, R.sz, R.tg⟩
  obtain ⟨o', h1, h2⟩ := R.sl i t (app_get e)
  have hi : i < zs.length := by rw [hl]; exact (List.getElem?_eq_some_iff.mp e).1
  rw [List.getElem?_append_left hi] at h1
  exact ⟨o', h1, h2⟩
theorem Rel.pops : ∀ {os : List (Option V)} {ss : List Sl}, os.length = ss.length → Rel K B pa (zs ++ os) H F (ws ++ ss) pn → Rel K B pa zs H F ws pn := by
  intro os
  induction os generalizing zs ws with
  | nil =>
    intro ss hl R
    cases ss with
    | nil => simpa using R
    | cons _ _ => simp at hl
  | cons x r ih =>
    intro ss hl R
    cases ss with
    | nil => simp at hl
    | cons y t =>
      have R' : Rel K B pa ((zs ++ [x]) ++ r) H F ((ws ++ [y]) ++ t) pn := by simpa using R
      exact (ih (by simpa using hl) R').pop
theorem Rel.move (R : Rel K B pa (zs ++ [o]) H F (ws ++ [s]) pn) (hi : i < zs.length) : Rel K B pa (zs.set i o) H F (ws.set i s) pn := by
  have hl : zs.length = ws.length := by have := R.len; simp at this; omega
  have at_ : ∀ (k : Nat) (t : Sl), (ws.set i s)[k]? = some t → ∃ m, (ws ++ [s])[m]? = some t ∧ (zs.set i o)[k]? = (zs ++ [o])[m]? ∧ ((k = i ∧ m = ws.length) ∨ (k ≠ i ∧ m = k ∧ k < ws.length)) := fun k t e => by
    by_cases hk : k = i
    · subst hk
      rw [List.getElem?_set_self (by omega)] at e
      refine ⟨ws.length, ?_, ?_, .inl ⟨rfl, rfl⟩⟩
      · rw [app_last]; exact e
      · rw [List.getElem?_set_self hi, ← hl, app_last]
    · rw [List.getElem?_set_ne (Ne.symm hk)] at e
      have hk' := (List.getElem?_eq_some_iff.mp e).1
      refine ⟨k, app_get e, ?_, .inr ⟨hk, rfl, hk'⟩⟩
      rw [List.getElem?_set_ne (Ne.symm hk), List.getElem?_append_left (by omega)]
  obtain ⟨T, t⟩ := R.st
  refine ⟨by simp [hl], R.fh, R.base, R.f0, R.fr, fun k t e => ?_, fun k j xs ys a e1 e2 e3 e4 => ?_, ⟨T, t.r, t.hn, t.fn, t.bs, fun k xs a e1 e2 => ?_⟩, R.pal, R.sz, R.tg⟩
  · obtain ⟨m, h1, h2, _⟩ := at_ k t e
    obtain ⟨o', q1, q2⟩ := R.sl m t h1
    exact ⟨o', by rw [h2]; exact q1, q2⟩
  · obtain ⟨m, h1, h2, h3⟩ := at_ k _ e1
    obtain ⟨n, g1, g2, g3⟩ := at_ j _ e2
    have := R.inj m n xs ys a h1 g1 (by rw [← h2]; exact e3) (by rw [← g2]; exact e4)
    omega
  · obtain ⟨m, h1, h2, _⟩ := at_ k _ e1
    exact t.ap m xs a h1 (by rw [← h2]; exact e2)
theorem Rel.freeze (R : Rel K B pa zs H F ws pn) (hi : ws[i]? = some (.own xs)) : ∃ F' v, Le F F' ∧ Rel K B pa zs H F' (ws.set i (.val (.list xs))) pn ∧ zs[i]? = some (some v) ∧ DR K F' (.list xs) v := by
  obtain ⟨o, h1, a, vs, e, h2, h3, h4, h5⟩ := R.sl i _ hi
  subst e
  have hF : Le F (upd F a (.lst vs)) := le_upd h4
  have hd : DR K (upd F a (.lst vs)) (.list xs) (.ref a) := DR.list_.mpr ⟨a, vs, rfl, upd_same, h3.mono hF⟩
  have hiw := (List.getElem?_eq_some_iff.mp hi).1
  obtain ⟨T, t⟩ := R.st
  have hTa := t.ap i xs a hi h1
  have ne : ∀ (k : Nat) (zz : List D), (ws.set i (.val (.list xs)))[k]? = some (.own zz) → ws[k]? = some (.own zz) ∧ k ≠ i := fun k zz e => by
    by_cases hk : k = i
    · subst hk
      rw [List.getElem?_set_self hiw] at e; cases e
    · rw [List.getElem?_set_ne (Ne.symm hk)] at e; exact ⟨e, hk⟩
  have hfn : ∀ b, T b → upd F a (.lst vs) b = none := fun b hb => by rw [upd_ne fun z => hTa (by rw [← z]; exact hb)]; exact t.fn b hb
  refine ⟨_, .ref a, hF, ⟨by simp [R.len], fun b u e => ?_, R.base, R.f0.trans hF, fun b u e => ?_, fun j t e => ?_, fun k j xs' ys a' e1 e2 e3 e4 => ?_, ⟨T, StK.frame t.r (fun b _ => rfl) hF hfn, t.hn, hfn, t.bs, fun k xs' a' e1 e2 => t.ap k xs' a' (ne k _ e1).1 e2⟩, R.pal, R.sz, fun r er => (R.tg r er).grow hF fun b u e => ?_⟩, h1, hd⟩
  · by_cases hb : b = a
    · subst hb; rw [upd_same] at e; rw [h2]; exact e
    · rw [upd_ne hb] at e; exact R.fh _ _ e
  · by_cases hb : b = a
    · subst hb; exact .inr (.inl h5)
    · rw [upd_ne hb] at e; exact R.fr _ _ e
  · by_cases hj : j = i
    · subst hj
      rw [List.getElem?_set_self hiw] at e
      cases e
      exact ⟨_, h1, _, rfl, hd⟩
    · rw [List.getElem?_set_ne (Ne.symm hj)] at e
      obtain ⟨o', q1, q2⟩ := R.sl j t e
      refine ⟨o', q1, q2.grow (fun ys a' z1 z2 => ?_) hF⟩
      subst z1 z2
      obtain ⟨_, _, y1, _, _, y2, _⟩ := q2
      cases y1
      refine ⟨rfl, ?_⟩
      rw [upd_ne fun z => hj (R.inj j i ys xs a' e hi q1 (by rw [z]; exact h1))]
      exact y2
  · exact R.inj k j _ _ a' (ne _ _ e1).1 (ne _ _ e2).1 e3 e4
  · by_cases hb : b = a
    · subst hb; exact .inr (.inl h5)
    · rw [upd_ne hb] at e; exact .inl e
theorem Rel.write {vs : List V} {a : Addr} (R : Rel K B pa zs H F ws pn) (hi : ws[i]? = some (.own xs)) (ha : zs[i]? = some (some (.ref a))) (h : DRs K F ys vs) (hz : vs.length ≤ sizeLine) : Rel K B pa zs (upd H a (.lst vs)) F (ws.set i (.own ys)) pn := by
  obtain ⟨o, h1, a', vs', e, h2, h3, h4, h5⟩ := R.sl i _ hi
  subst e
  rw [ha] at h1
  cases h1
  have hiw := (List.getElem?_eq_some_iff.mp hi).1
  obtain ⟨T, t⟩ := R.st
  have hTa := t.ap i xs a hi ha
  have ne : ∀ (k : Nat) (zz : List D), (ws.set i (.own ys))[k]? = some (.own zz) → ∃ z', ws[k]? = some (.own z') := fun k zz e => by
    by_cases hk : k = i
    · subst hk; exact ⟨_, hi⟩
    · rw [List.getElem?_set_ne (Ne.symm hk)] at e; exact ⟨_, e⟩
  have tH : ∀ b, T b → upd H a (.lst vs) b = H b := fun b hb => upd_ne fun z => hTa (by rw [← z]; exact hb)
  refine ⟨by simp [R.len], fun b u e => ?_, fun b u e n => ?_, R.f0, R.fr, fun j t e => ?_, fun k j xs' ys a' e1 e2 e3 e4 => ?_, ⟨T, StK.frame t.r tH (Le.refl _) t.fn, fun b hb => by rw [tH b hb]; exact t.hn b hb, t.fn, t.bs, fun k xs' a' e1 e2 => ?_⟩, fun b e z => ?_, R.sz.upL hz, R.tg⟩
  · have hb : b ≠ a := fun z => by rw [z, h4] at e; cases e
    rw [upd_ne hb]; exact R.fh _ _ e
  · have hb : b ≠ a := fun z => by rw [z, h5] at e; cases e
    rw [upd_ne hb]; exact R.base _ _ e n
  · by_cases hj : j = i
    · subst hj
      rw [List.getElem?_set_self hiw] at e
      cases e
      exact ⟨_, ha, a, vs, rfl, upd_same, h, h4, h5⟩
    · rw [List.getElem?_set_ne (Ne.symm hj)] at e
      obtain ⟨o', q1, q2⟩ := R.sl j t e
      refine ⟨o', q1, q2.grow (fun zz a' z1 z2 => ?_) (Le.refl _)⟩
      subst z1 z2
      obtain ⟨_, _, y1, _, _, y2, _⟩ := q2
      cases y1
      exact ⟨upd_ne fun z => hj (R.inj j i zz xs a' e hi q1 (by rw [z]; exact ha)), y2⟩
  · obtain ⟨z1, q1⟩ := ne _ _ e1
    obtain ⟨z2, q2⟩ := ne _ _ e2
    exact R.inj k j _ _ a' q1 q2 e3 e4
  · obtain ⟨z1, q1⟩ := ne _ _ e1
    exact t.ap k z1 a' q1 e2
  · by_cases hb : b = a
    · subst hb; rw [upd_same] at z; cases z
    · rw [upd_ne hb] at z; exact R.pal b e z
end
def PenR (K : Fg) (F H : Hp) (pa : Option Addr) : Option Pen → Prop
  | none => True
  | some p => ∃ a c, pa = some a ∧ H a = some (.lst [.ref c, .int p.at_, .int p.cur]) ∧ F a = none ∧ F c = some (.lst (p.cells.map .int))
theorem PenR.frame {K : Fg} {F H F' H' : Hp} {pa : Option Addr} {pn : Option Pen} (h : PenR K F H pa pn) (hH : ∀ b, pa = some b → H' b = H b) (hF : Le F F') (hf : ∀ b, pa = some b → F' b = none) : PenR K F' H' pa pn := by
  cases pn with
  | none => trivial
  | some p =>
    obtain ⟨a, c, h1, h2, h3, h4⟩ := h
    exact ⟨a, c, h1, by rw [hH a h1]; exact h2, hf a h1, hF _ _ h4⟩
instance stPen : StK (Option Pen) where
  look := fun _ _ => none
  tag := fun _ => none
  seen := fun _ e => nomatch e
  R := fun K pa H F pn T => PenR K F H pa pn ∧ T = fun b => pa = some b
  frame := fun h hH hF hf => by
    obtain ⟨h1, rfl⟩ := h
    exact ⟨h1.frame hH hF hf, rfl⟩
instance noPen : NoTag (Option Pen) := ⟨fun _ => rfl⟩
class PenK (S : Type) extends StK S where
  get : S → Option Pen
  set : Option Pen → S → S
  tagS : ∀ (p : Option Pen) (s : S), tag (set p s) = tag s
  pen : ∀ {K : Fg} {pa : Option Addr} {H F : Hp} {s : S} {T : Addr → Prop}, R K pa H F s T → PenR K F H pa (get s) ∧ ∀ b, pa = some b → T b
  apart : ∀ {K : Fg} {pa : Option Addr} {H F : Hp} {s : S} {T : Addr → Prop} {b : Addr} {xs : List D}, R K pa H F s T → look s b = some xs → pa ≠ some b
  up : ∀ {K : Fg} {pa : Option Addr} {H F H' F' : Hp} {s : S} {T : Addr → Prop} {pn : Option Pen}, R K pa H F s T → (∀ b, T b → pa ≠ some b → H' b = H b) → Le F F' → (∀ b, T b → F' b = none) → PenR K F' H' pa pn → R K pa H' F' (set pn s) T
instance penPen : PenK (Option Pen) where
  toStK := stPen
  get := fun p => p
  set := fun p _ => p
  tagS := fun _ _ => rfl
  pen := fun h => by
    obtain ⟨h1, rfl⟩ := h
    exact ⟨h1, fun b e => e⟩
  apart := fun _ e => nomatch e
  up := fun h _ _ _ hp => by
    obtain ⟨_, rfl⟩ := h
    exact ⟨hp, rfl⟩
end Dk
namespace Dk
open PySem PySem.Spec PyProof.Rows L2
variable {S : Type} [StK S]
structure En (S : Type := Option Pen) where
  sl : List Sl
  pn : S
inductive Rs where
  | val (d : D) | own (xs : List D)
def Rs.sl : Rs → Sl
  | .val d => .val d
  | .own xs => .own xs
def Rs.d : Rs → D
  | .val d => d
  | .own xs => .list xs
inductive Tk where
  | tmp (r : Rs) | slot (i : Nat) | bt (xs : List D) | fb (b : Addr)
def Tk.sl : Tk → Sl
  | .tmp r => r.sl
  | .slot _ => .un
  | .bt xs => .bor xs
  | .fb b => .ref b
def Sl.rd : Sl → Option D
  | .val d => some d
  | .own xs => some (.list xs)
  | .bor xs => some (.list xs)
  | _ => none
def Tk.rd (ρ : En S) : Tk → Option D
  | .tmp r => some r.d
  | .slot i => (ρ.sl[i]?).bind Sl.rd
  | .bt xs => some (.list xs)
  | .fb b => (StK.look ρ.pn b).map .list
def gets {α : Type} : Option α → (α → Prop) → Prop
  | some a, k => k a
  | none, _ => False
@[simp] theorem gets_some {α : Type} {a : α} {k : α → Prop} : gets (some a) k = k a := rfl
@[simp] theorem gets_none {α : Type} {k : α → Prop} : gets none k = False := rfl
theorem gets_elim {α : Type} {o : Option α} {k : α → Prop} (h : gets o k) : ∃ a, o = some a ∧ k a := by
  cases o with
  | none => exact h.elim
  | some a => exact ⟨a, rfl, h⟩
def RdD (K : Fg) (H F : Hp) (d : D) (v : V) : Prop := DR K F d v ∨ ∃ ds a vs, d = .list ds ∧ v = .ref a ∧ H a = some (.lst vs) ∧ DRs K F ds vs
def RdDs (K : Fg) (H F : Hp) : List D → List V → Prop
  | [], vs => vs = []
  | d :: ds, vs => ∃ v r, vs = v :: r ∧ RdD K H F d v ∧ RdDs K H F ds r
section
variable {K : Fg} {B : Bs} {pa : Option Addr} {zs : List (Option V)} {H F H' F' : Hp} {ws : List Sl} {pn pn' : S} {v : V} {d : D} {s : Sl} {o : Option V} {xs ys : List D} {p : Addr} {i : Nat}
theorem RdD.list {ds : List D} (h : RdD K H F (.list ds) v) (e : Le F H) : ∃ a vs, v = .ref a ∧ H a = some (.lst vs) ∧ DRs K F ds vs := by
  rcases h with h | ⟨ds', a, vs, h1, h2, h3, h4⟩
  · obtain ⟨a, vs, h1, h2, h3⟩ := DR.list_.mp h
    exact ⟨a, vs, h1, e _ _ h2, h3⟩
  · cases h1
    exact ⟨a, vs, h2, h3, h4⟩
theorem RdD.tuple {ds : List D} (h : RdD K H F (.tuple ds) v) (e : Le F H) : ∃ a vs, v = .ref a ∧ SqT K H a vs ∧ DRs K F ds vs := by
  rcases h with h | ⟨ds', a, vs, h1, _⟩
  · obtain ⟨a, vs, h1, h2, h3⟩ := DR.tuple_s h
    exact ⟨a, vs, h1, e.t h2, h3⟩
  · cases h1
theorem RdD.int {j : Int} (h : RdD K H F (.int j) v) : v = .int j := by
  rcases h with h | ⟨ds', a, vs, h1, _⟩
  · exact DR.int_.mp h
  · cases h1
theorem RdD.bool {j : Bool} (h : RdD K H F (.bool j) v) : v = .bl j := by
  rcases h with h | ⟨ds', a, vs, h1, _⟩
  · exact DR.bl_.mp h
  · cases h1
theorem RdD.str {j : Str} (h : RdD K H F (.str j) v) : v = .str j := by
  rcases h with h | ⟨ds', a, vs, h1, _⟩
  · exact DR.str_.mp h
  · cases h1
theorem RdD.none_ (h : RdD K H F .none v) : v = .non := by
  rcases h with h | ⟨ds', a, vs, h1, _⟩
  · exact DR.non_.mp h
  · cases h1
theorem RdD.dict {kvs : List (D × D)} (h : RdD K H F (.dict kvs) v) (e : Le F H) : ∃ a, v = .ref a ∧ kvs = [] ∧ H a = some (.dK []) := by
  rcases h with h | ⟨ds', a, vs, h1, _⟩
  · obtain ⟨a, h1, h2, h3⟩ := DR.dict_.mp h
    exact ⟨a, h1, h2, e _ _ h3⟩
  · cases h1
theorem RdDs.one (h : RdDs K H F [d] vs) : ∃ v, vs = [v] ∧ RdD K H F d v := by
  obtain ⟨v, r, h1, h2, h3⟩ := h
  have h3 : r = [] := h3
  subst h3
  exact ⟨v, h1, h2⟩
theorem RdDs.two {e : D} (h : RdDs K H F [d, e] vs) : ∃ v u, vs = [v, u] ∧ RdD K H F d v ∧ RdD K H F e u := by
  obtain ⟨v, r, h1, h2, h3⟩ := h
  obtain ⟨u, rfl, h4⟩ := RdDs.one h3
  exact ⟨v, u, h1, h2, h4⟩
theorem slot_read (R : Rel K B pa zs H F ws pn) {c : Nat} (hw : ws[c]? = some s) (hz : zs[c]? = some (some v)) (h : s.rd = some d) : RdD K H F d v := by
  obtain ⟨o, h1, h2⟩ := R.sl c s hw
  rw [hz] at h1
  cases h1
  cases s with
  | un => cases h
  | pen => cases h
  | scr ns => cases h
  | ref a => cases h
  | val e =>
    cases h
    obtain ⟨u, h3, h4⟩ := h2
    cases h3
    exact .inl h4
  | own e =>
    cases h
    obtain ⟨a, vs, h3, h4, h5, _⟩ := h2
    cases h3
    exact .inr ⟨_, a, vs, rfl, rfl, h4, h5⟩
  | bor e =>
    cases h
    obtain ⟨a, vs, h3, h4, h5, h6⟩ := h2
    cases h3
    exact .inr ⟨_, a, vs, rfl, rfl, R.base _ _ h4 h6, h5⟩
theorem Rs.rd_sl (r : Rs) : r.sl.rd = some r.d := by cases r <;> rfl
theorem tk_read {k : Tk} {ρ : En S} {c : Nat} (R : Rel K B pa zs H F ws ρ.pn) (hw : ws[c]? = some k.sl) (hz : zs[c]? = some (some v)) (hs : ∀ i, k = .slot i → zs[i]? = some (some v)) (hρ : ∀ i, i < ρ.sl.length → ws[i]? = ρ.sl[i]?) (h : k.rd ρ = some d) : RdD K H F d v := by
  cases k with
  | tmp r =>
    have h : some r.d = some d := h
    exact slot_read R hw hz (by show r.sl.rd = _; rw [Rs.rd_sl]; exact h)
  | bt xs => exact slot_read R hw hz h
  | slot i =>
    have h : (ρ.sl[i]?).bind Sl.rd = some d := h
    obtain ⟨s, h1, h2⟩ := Option.bind_eq_some_iff.mp h
    exact slot_read R (by rw [hρ i (List.getElem?_eq_some_iff.mp h1).1]; exact h1) (hs i rfl) h2
  | fb b =>
    have h : (StK.look ρ.pn b).map PyData.list = some d := h
    obtain ⟨xs, h1, rfl⟩ := Option.map_eq_some_iff.mp h
    obtain ⟨o, h2, h3⟩ := R.sl c _ hw
    have h3 : o = some (.ref b) := h3
    subst h3
    rw [hz] at h2
    cases h2
    obtain ⟨T, t⟩ := R.st
    obtain ⟨vs, h4, h5⟩ := StK.seen t.r h1
    exact .inr ⟨xs, b, vs, rfl, rfl, h4, h5⟩
end
def Gives (K : Fg) (F H : Hp) : Rs → VK → Prop
  | .val z, Q => (∀ v, DR K F z v → Q v H) ∧ (∀ zs vs, z = .tuple zs → DRs K F zs vs → vs.length ≤ sizeLine → NewT H Q vs) ∧ (∀ p, z = .dict [] → H p = none → Q (.ref p) (upd H p (.dK [])))
  | .own zs, Q => ∀ vs p, DRs K F zs vs → vs.length ≤ sizeLine → H p = none → Q (.ref p) (upd H p (.lst vs))
theorem Rel.gives {K : Fg} {B : Bs} {pa : Option Addr} {zs : List (Option V)} {H F : Hp} {ws : List Sl} {pn : S} {r : Rs} {Q : VK} (R : Rel K B pa zs H F ws pn)
    (q : ∀ v H' F', Rel K B pa (zs ++ [some v]) H' F' (ws ++ [r.sl]) pn → Q v H') : Gives K F H r Q := by
  cases r with
  | val z => exact ⟨fun v h => q v H F (R.pushVal h), fun ys vs e h hz p o hp ho => q _ _ _ (by rw [e]; exact R.pushTup hp h hz ho), fun p e hp => q _ _ _ (by rw [e]; exact R.pushDict hp)⟩
  | own ys => exact fun vs p h hz hp => q _ _ _ (R.pushOwn hp h hz)
theorem freezeLast {K : Fg} {B : Bs} {pa : Option Addr} {zs : List (Option V)} {H F : Hp} {ws : List Sl} {pn : S} {r : Rs} {v : V} (R : Rel K B pa (zs ++ [some v]) H F (ws ++ [r.sl]) pn) :
    ∃ F', Le F F' ∧ Rel K B pa (zs ++ [some v]) H F' (ws ++ [.val r.d]) pn := by
  cases r with
  | val z => exact ⟨F, Le.refl _, R⟩
  | own ys =>
    obtain ⟨F', u, h1, h2, _⟩ := R.freeze (i := ws.length) (xs := ys) (app_last _ _)
    refine ⟨F', h1, ?_⟩
    have e : (ws ++ [(Rs.own ys).sl]).set ws.length (.val (.list ys)) = ws ++ [.val (.list ys)] := by
      rw [List.set_append_right _ _ (Nat.le_refl _)]
      simp
    rw [e] at h2
    exact h2
abbrev OW (S : Type := Option Pen) := (En S) → (Tk → (En S) → Prop) → Prop
abbrev DW (S : Type := Option Pen) := (En S) → (Rs → (En S) → Prop) → Prop
abbrev BW (S : Type := Option Pen) := (En S) → (Bool → (En S) → Prop) → Prop
abbrev AW (S : Type := Option Pen) := (En S) → (List Tk → (En S) → Prop) → Prop
def liftO (K : Fg) (t : (OW S)) : TE := fun σ H Q => ∃ B pa τ F ρ θ P, Rel K B pa (σ ++ τ) H F (ρ.sl ++ θ) ρ.pn ∧ ρ.sl.length = σ.length ∧ t ρ P ∧
  ∀ k ρ' v H' F', P k ρ' → ρ'.sl.length = σ.length → Rel K B pa (σ ++ τ ++ [some v]) H' F' (ρ'.sl ++ θ ++ [k.sl]) ρ'.pn → (∀ i, k = .slot i → σ[i]? = some (some v)) → Q v H'
def liftT (K : Fg) (t : (BW S)) : TT := fun σ H Q => ∃ B pa τ F ρ θ P, Rel K B pa (σ ++ τ) H F (ρ.sl ++ θ) ρ.pn ∧ ρ.sl.length = σ.length ∧ t ρ P ∧
  ∀ b ρ' H' F', P b ρ' → ρ'.sl.length = σ.length → Rel K B pa (σ ++ τ) H' F' (ρ'.sl ++ θ) ρ'.pn → Q b H'
def liftA (K : Fg) (t : (AW S)) : TA := fun σ H Q => ∃ B pa τ F ρ θ P, Rel K B pa (σ ++ τ) H F (ρ.sl ++ θ) ρ.pn ∧ ρ.sl.length = σ.length ∧ t ρ P ∧
  ∀ ks ρ' vs H' F', P ks ρ' → ρ'.sl.length = σ.length → ks.length = vs.length → Rel K B pa (σ ++ τ ++ vs.map some) H' F' (ρ'.sl ++ θ ++ ks.map Tk.sl) ρ'.pn →
    (∀ (j : Nat) i v, ks[j]? = some (.slot i) → vs[j]? = some v → σ[i]? = some (some v)) → Q vs H'
def tmpD (t : (DW S)) : (OW S) := fun ρ P => t ρ fun r ρ' => P (.tmp r) ρ'
abbrev CO (X : Cx) (e : Expr) (t : (OW S)) : Prop := PE X e (liftO X.K t)
abbrev CE (X : Cx) (e : Expr) (t : (DW S)) : Prop := PE X e (liftO X.K (tmpD t))
abbrev CT (X : Cx) (e : Expr) (t : (BW S)) : Prop := PT X e (liftT X.K t)
abbrev CW (X : Cx) (e : Expr) (t : (BW S)) : Prop := PW X e (liftT X.K t)
abbrev CA (X : Cx) (es : List Expr) (t : (AW S)) : Prop := PA X es (liftA X.K t)
section
variable {X : Cx} {e a b c : Expr} {es : List Expr} {t u : TE}
theorem pe_mono (h : PE X e t) (m : ∀ σ H Q, u σ H Q → t σ H Q) : PE X e u := ⟨fun pins s σ H Q I q => h.run pins s σ H Q I (m σ H Q q)⟩
theorem pt_mono {t u : TT} (h : PT X e t) (m : ∀ σ H Q, u σ H Q → t σ H Q) : PT X e u := ⟨fun pins s σ H Q I q => h.run pins s σ H Q I (m σ H Q q)⟩
theorem pw_mono {t u : TT} (h : PW X e t) (m : ∀ σ H Q, u σ H Q → t σ H Q) : PW X e u := ⟨fun w pins s σ H Q I q => h.run w pins s σ H Q I (m σ H Q q)⟩
theorem pa_mono {t u : TA} (h : PA X es t) (m : ∀ σ H Q, u σ H Q → t σ H Q) : PA X es u := ⟨fun pos pins s σ H Q I q => h.run pos pins s σ H Q I (m σ H Q q)⟩
def hasS (ρ : List Sl) (i : Nat) : Bool := match ρ[i]? with
  | some .un => false
  | some _ => true
  | none => false
def oSlot (i : Nat) : (OW S) := fun ρ P => hasS ρ.sl i = true ∧ P (.slot i) ρ
theorem has_val {K : Fg} {B : Bs} {pa : Option Addr} {zs : List (Option V)} {H F : Hp} {pn : S} {ρ : List Sl} {θ : List Sl} {i : Nat} (R : Rel K B pa zs H F (ρ ++ θ) pn) (h : hasS ρ i = true) : ∃ v, zs[i]? = some (some v) := by
  unfold hasS at h
  cases q : ρ[i]? with
  | none => rw [q] at h; cases h
  | some s =>
    rw [q] at h
    obtain ⟨o, h1, h2⟩ := R.sl i s (by rw [List.getElem?_append_left (List.getElem?_eq_some_iff.mp q).1]; exact q)
    cases s with
    | un => cases h
    | val d => obtain ⟨v, rfl, _⟩ := h2; exact ⟨v, h1⟩
    | own d => obtain ⟨a, vs, rfl, _⟩ := h2; exact ⟨_, h1⟩
    | bor d => obtain ⟨a, vs, rfl, _⟩ := h2; exact ⟨_, h1⟩
    | pen => obtain ⟨a, _, rfl⟩ := h2; exact ⟨_, h1⟩
    | scr ns => obtain ⟨a, rfl, _⟩ := h2; exact ⟨_, h1⟩
    | ref a => subst h2; exact ⟨_, h1⟩
theorem left_get {α : Type} {l m : List α} {i : Nat} {x : α} (h : i < l.length) (e : (l ++ m)[i]? = some x) : l[i]? = some x := by rwa [List.getElem?_append_left h] at e
theorem hasS_lt {ρ : List Sl} {i : Nat} (h : hasS ρ i = true) : i < ρ.length := by
  unfold hasS at h
  cases q : ρ[i]? with
  | none => rw [q] at h; cases h
  | some s => exact (List.getElem?_eq_some_iff.mp q).1
theorem co_slot (i : Nat) {x : Str} {pos : Pos} (hN : X.N[i]? = some x := by rfl) (hv : Vis X.env.scope x := by first | exact Or.inl rfl | exact Or.inr (Or.inl rfl) | exact Or.inr (Or.inr rfl)) (hd : (x == ("__debug__" : Str)) = false := by decide)
    (hcd : (x == ("__classdict__" : Str)) = false := by decide) : CO (S := S) X (.Name x pos) (oSlot i) := pe_mono (pe_var hN hv hd hcd) fun σ H Q ⟨B, pa, τ, F, ρ, θ, P, R, hl, ⟨h1, h2⟩, q⟩ => by
  obtain ⟨v, hv⟩ := has_val R h1
  have hv' := left_get (by rw [← hl]; exact hasS_lt h1) hv
  exact ⟨v, hv', q _ _ v H F h2 hl (R.pushUn _) fun j e => by cases e; exact hv'⟩
def oFix (i : Nat) : (OW S) := fun ρ P => match ρ.sl[i]? with
  | some (.val d) => P (.tmp (.val d)) ρ
  | some (.own xs) => P (.tmp (.val (.list xs))) { ρ with sl := ρ.sl.set i (.val (.list xs)) }
  | some (.bor xs) => P (.bt xs) ρ
  | _ => False
theorem co_fix (i : Nat) {x : Str} {pos : Pos} (hN : X.N[i]? = some x := by rfl) (hv : Vis X.env.scope x := by first | exact Or.inl rfl | exact Or.inr (Or.inl rfl) | exact Or.inr (Or.inr rfl)) (hd : (x == ("__debug__" : Str)) = false := by decide)
    (hcd : (x == ("__classdict__" : Str)) = false := by decide) : CO (S := S) X (.Name x pos) (oFix i) := pe_mono (pe_var hN hv hd hcd) fun σ H Q ⟨B, pa, τ, F, ρ, θ, P, R, hl, h, q⟩ => by
  unfold oFix at h
  cases hi : ρ.sl[i]? with
  | none => rw [hi] at h; exact h.elim
  | some s =>
    rw [hi] at h
    have hlt := (List.getElem?_eq_some_iff.mp hi).1
    have hw : (ρ.sl ++ θ)[i]? = some s := by rw [List.getElem?_append_left hlt]; exact hi
    cases s with
    | un => exact h.elim
    | pen => exact h.elim
    | scr ns => exact h.elim
    | ref a => exact h.elim
    | bor xs =>
      obtain ⟨o, h1, h2⟩ := R.sl i _ hw
      have h3 := h2
      obtain ⟨a, vs, rfl, _⟩ := h2
      exact ⟨_, left_get (by rw [← hl]; exact hlt) h1, q _ _ _ H F h hl (R.push h3 fun _ => nofun) (fun j e => by cases e)⟩
    | val d =>
      obtain ⟨o, h1, v, rfl, h2⟩ := R.sl i _ hw
      exact ⟨v, left_get (by rw [← hl]; exact hlt) h1, q _ _ v H F h hl (R.pushVal h2) (fun j e => by cases e)⟩
    | own xs =>
      obtain ⟨F', v, h1, h2, h3, h4⟩ := R.freeze hw
      rw [List.set_append_left _ _ hlt] at h2
      exact ⟨v, left_get (by rw [← hl]; exact hlt) h3, q _ _ v H F' h (by simpa using hl) (h2.pushVal h4) (fun j e => by cases e)⟩
def dVar (i : Nat) : (DW S) := fun ρ P => match ρ.sl[i]? with
  | some (.val d) => P (.val d) ρ
  | some (.own xs) => P (.val (.list xs)) { ρ with sl := ρ.sl.set i (.val (.list xs)) }
  | _ => False
theorem ce_var (i : Nat) {x : Str} {pos : Pos} (hN : X.N[i]? = some x := by rfl) (hv : Vis X.env.scope x := by first | exact Or.inl rfl | exact Or.inr (Or.inl rfl) | exact Or.inr (Or.inr rfl)) (hd : (x == ("__debug__" : Str)) = false := by decide)
    (hcd : (x == ("__classdict__" : Str)) = false := by decide) : CE (S := S) X (.Name x pos) (dVar i) := pe_mono (pe_var hN hv hd hcd) fun σ H Q ⟨B, pa, τ, F, ρ, θ, P, R, hl, h, q⟩ => by
  have h : dVar i ρ fun r ρ' => P (.tmp r) ρ' := h
  unfold dVar at h
  cases hi : ρ.sl[i]? with
  | none => rw [hi] at h; exact h.elim
  | some s =>
    rw [hi] at h
    have hlt := (List.getElem?_eq_some_iff.mp hi).1
    have hw : (ρ.sl ++ θ)[i]? = some s := by rw [List.getElem?_append_left hlt]; exact hi
    cases s with
    | un => exact h.elim
    | bor _ => exact h.elim
    | pen => exact h.elim
    | scr ns => exact h.elim
    | ref a => exact h.elim
    | val d =>
      obtain ⟨o, h1, v, rfl, h2⟩ := R.sl i _ hw
      exact ⟨v, left_get (by rw [← hl]; exact hlt) h1, q _ _ v H F h hl (R.pushVal h2) (fun j e => by cases e)⟩
    | own xs =>
      obtain ⟨F', v, h1, h2, h3, h4⟩ := R.freeze hw
      rw [List.set_append_left _ _ hlt] at h2
      exact ⟨v, left_get (by rw [← hl]; exact hlt) h3, q _ _ v H F' h (by simpa using hl) (h2.pushVal h4) (fun j e => by cases e)⟩
def dC (d : D) : (DW S) := fun ρ P => P (.val d) ρ
theorem ce_const {d : D} {v : V} (h : PE X e (tC v)) (hd : ∀ F, DR X.K F d v) : CE (S := S) X e (dC d) := pe_mono h fun σ H Q ⟨B, pa, τ, F, ρ, θ, P, R, hl, h, q⟩ => q _ _ v H F h hl (R.pushVal (hd F)) (fun j e => by cases e)
theorem ce_int {i : Int} {j pos} : CE (S := S) X (.Constant (.int i) j pos) (dC (.int i)) := ce_const pe_int fun _ => DR.int_.mpr rfl
theorem ce_bl {i : Bool} {j pos} : CE (S := S) X (.Constant (.bool i) j pos) (dC (.bool i)) := ce_const pe_bl fun _ => DR.bl_.mpr rfl
theorem ce_str {i : Str} {j pos} : CE (S := S) X (.Constant (.str i) j pos) (dC (.str i)) := ce_const pe_str fun _ => DR.str_.mpr rfl
theorem ce_non {j pos} : CE (S := S) X (.Constant .none j pos) (dC .none) := ce_const pe_non fun _ => DR.non_.mpr rfl
def OpD (X : Cx) (f : Value → Value → Sem Value) (g : D → D → Option Rs) : Prop :=
  OpR X f fun x y H Q => ∃ F d e r, (Szs H ∧ Le F H) ∧ RdD X.K H F d x ∧ RdD X.K H F e y ∧ g d e = some r ∧ Gives X.K F H r Q
def dBin (g : D → D → Option Rs) (ta tb : (OW S)) : (DW S) := fun ρ P => ta ρ fun k1 ρ1 => tb ρ1 fun k2 ρ2 => gets (k1.rd ρ2) fun d1 => gets (k2.rd ρ2) fun d2 => gets (g d1 d2) fun r => P r ρ2
theorem bin_step {K : Fg} {g : D → D → Option Rs} {ta tb : (OW S)} {σ : L2.St} {H : Hp} {Q : VK} (h : liftO K (tmpD (dBin g ta tb)) σ H Q) :
    liftO K ta σ H fun x H1 => liftO K tb σ H1 fun y H2 => ∃ F d e r, (Szs H2 ∧ Le F H2) ∧ RdD K H2 F d x ∧ RdD K H2 F e y ∧ g d e = some r ∧ Gives K F H2 r Q := by
  obtain ⟨B, pa, τ, F, ρ, θ, P, R, hl, h, q⟩ := h
  refine ⟨B, pa, τ, F, ρ, θ, _, R, hl, h, fun k1 ρ1 v1 H1 F1 h1 hl1 R1 s1 => ?_⟩
  refine ⟨B, pa, τ ++ [some v1], F1, ρ1, θ ++ [k1.sl], _, by rw [← List.append_assoc, ← List.append_assoc]; exact R1, hl1, h1, fun k2 ρ2 v2 H2 F2 h2 hl2 R2 s2 => ?_⟩
  rw [← List.append_assoc, ← List.append_assoc] at R2
  obtain ⟨d1, e1, h2⟩ := gets_elim h2
  obtain ⟨d2, e2, h2⟩ := gets_elim h2
  obtain ⟨r, e3, h2⟩ := gets_elim h2
  have hρ : ∀ (l : List Sl) i, i < ρ2.sl.length → (ρ2.sl ++ l)[i]? = ρ2.sl[i]? := fun l i hi => List.getElem?_append_left hi
  have hlen : (σ ++ τ).length = (ρ2.sl ++ θ).length := R2.pop.pop.len
  have hsz : ∀ {i : Nat} {v : V} (l : List (Option V)), σ[i]? = some (some v) → (σ ++ l)[i]? = some (some v) := fun l h => by
    rw [List.getElem?_append_left (List.getElem?_eq_some_iff.mp h).1]; exact h
  refine ⟨F2, d1, d2, r, ⟨R2.sz, R2.fh⟩, ?_, ?_, e3, R2.pop.pop.gives fun v H' F' R' => q _ _ v H' F' h2 hl2 R' (fun j e => by cases e)⟩
  · refine tk_read (k := k1) (ρ := ρ2) (c := (ρ2.sl ++ θ).length) R2 (app_get (app_last _ _)) (app_get (by rw [← hlen]; exact app_last _ _)) (fun i e => ?_) (fun i hi => ?_) e1
    · rw [List.append_assoc, List.append_assoc]; exact hsz _ (s1 i e)
    · rw [List.append_assoc, List.append_assoc]; exact hρ _ i hi
  · refine tk_read (k := k2) (ρ := ρ2) (c := (ρ2.sl ++ θ ++ [k1.sl]).length) R2 (app_last _ _) ?_ (fun i e => ?_) (fun i hi => ?_) e2
    · rw [show (ρ2.sl ++ θ ++ [k1.sl]).length = (σ ++ τ ++ [some v1]).length from R2.pop.len.symm]
      exact app_last _ _
    · rw [List.append_assoc, List.append_assoc]; exact hsz _ (s2 i e)
    · rw [List.append_assoc, List.append_assoc]; exact hρ _ i hi
variable {ta tb tc : (OW S)} {pos : Pos} {g : D → D → Option Rs}
theorem ce_bin {op : Operator} (ho : OpD X (binaryOp op) g) (ha : CO (S := S) X a ta) (hb : CO (S := S) X b tb) : CE (S := S) X (.BinOp a op b pos) (dBin g ta tb) := pe_mono (pe_op ho ha hb) fun _ _ _ h => bin_step h
theorem ce_cmp {op : CmpOp} (ho : OpD X (compareOp op) g) (ha : CO (S := S) X a ta) (hb : CO (S := S) X b tb) (hm : behindInMarks op b = false := by first | exact nomark _ | rfl) : CE (S := S) X (.Compare a [op] [b] pos) (dBin g ta tb) := pe_mono (pe_cmpR ho ha hb hm) fun _ _ _ h => bin_step h
theorem ce_ix (ho : IxR X fun x y H Q => ∃ F d e r, (Szs H ∧ Le F H) ∧ RdD X.K H F d x ∧ RdD X.K H F e y ∧ g d e = some r ∧ Gives X.K F H r Q) (ha : CO (S := S) X a ta) (hb : CO (S := S) X b tb) (hs : PlainIx b := by exact fun _ _ => rfl) : CE (S := S) X (.Subscript a b pos) (dBin g ta tb) :=
  pe_mono (pe_ix ho ha hb hs) fun _ _ _ h => bin_step h
theorem ce_cv {t : (DW S)} (h : CE (S := S) X e t) : CO (S := S) X e fun ρ P => t ρ fun r ρ' => P (.tmp (.val r.d)) ρ' := pe_mono h fun σ H Q ⟨B, pa, τ, F, ρ, θ, P, R, hl, h, q⟩ => by
  refine ⟨B, pa, τ, F, ρ, θ, fun k ρ' => ∃ r, k = .tmp r ∧ P (.tmp (.val r.d)) ρ', R, hl, ?_, fun k ρ' v H' F' ⟨r, hk, hp⟩ hl' R' _ => ?_⟩
  · have : (fun (r : Rs) (ρ' : (En S)) => P (.tmp (.val r.d)) ρ') = fun r ρ' => ∃ r', Tk.tmp r = Tk.tmp r' ∧ P (.tmp (.val r'.d)) ρ' := by
      funext r ρ'
      apply propext
      constructor
      · intro h; exact ⟨r, rfl, h⟩
      · rintro ⟨r', e, h⟩; cases e; exact h
    show t ρ fun r ρ' => ∃ r', Tk.tmp r = Tk.tmp r' ∧ P (.tmp (.val r'.d)) ρ'
    rw [← this]
    exact h
  · subst hk
    obtain ⟨F'', _, R''⟩ := freezeLast R'
    exact q _ _ v H' F'' hp hl' R'' (fun i e => by cases e)
end
end Dk
namespace Dk
open PySem PySem.Spec PyProof.Rows L2
variable {S : Type} [StK S]
theorem read_at {K : Fg} {B : Bs} {pa : Option Addr} {σ : L2.St} {τ : List (Option V)} {H F : Hp} {ρ : En S} {θ : List Sl} {k : Tk} {v : V} {d : D} (R : Rel K B pa (σ ++ τ) H F (ρ.sl ++ θ) ρ.pn) (hl : ρ.sl.length = σ.length) (c : Nat)
    (hτ : τ[c]? = some (some v)) (hθ : θ[c]? = some k.sl) (hs : ∀ i, k = .slot i → σ[i]? = some (some v)) (h : k.rd ρ = some d) : RdD K H F d v := by
  refine tk_read (k := k) (ρ := ρ) (c := ρ.sl.length + c) R ?_ ?_ (fun i e => ?_) (fun i hi => List.getElem?_append_left hi) h
  · rw [List.getElem?_append_right (Nat.le_add_right _ _), Nat.add_sub_cancel_left]; exact hθ
  · rw [List.getElem?_append_right (by rw [hl]; exact Nat.le_add_right _ _), hl, Nat.add_sub_cancel_left]; exact hτ
  · have := hs i e
    rw [List.getElem?_append_left (List.getElem?_eq_some_iff.mp this).1]; exact this
theorem getN {α : Type} {l : List α} {x : α} {n : Nat} (h : l.length = n) : (l ++ [x])[n]? = some x := by subst h; exact app_last _ _
def D.bool? : D → Option Bool
  | .bool b => some b
  | _ => none
@[simp] theorem D.bool?_bool (b : Bool) : D.bool? (.bool b) = some b := rfl
theorem D.bool?_some {d : D} {b : Bool} (h : D.bool? d = some b) : d = .bool b := by
  cases d <;> cases h
  rfl
section
variable {X : Cx} {e a b c : Expr} {es : List Expr} {t u : (OW S)} {pos : Pos}
def dTst (t : (OW S)) : (BW S) := fun ρ P => t ρ fun k ρ' => gets ((k.rd ρ').bind D.bool?) fun b => P b ρ'
theorem tst_step {K : Fg} {t : (OW S)} {σ : L2.St} {H : Hp} {Q : Bool → Hp → Prop} (h : liftT K (dTst t) σ H Q) : liftO K t σ H fun x H' => ∃ k, x = .bl k ∧ Q k H' := by
  obtain ⟨B, pa, τ, F, ρ, θ, P, R, hl, h, q⟩ := h
  refine ⟨B, pa, τ, F, ρ, θ, _, R, hl, h, fun k ρ' v H' F' hp hl' R' hs => ?_⟩
  obtain ⟨b, e, hp⟩ := gets_elim hp
  obtain ⟨d, e1, e2⟩ := Option.bind_eq_some_iff.mp e
  have e3 := D.bool?_some e2
  subst e3
  have hτ : τ.length = θ.length := by have := R'.pop.len; simp at this; omega
  have rd := read_at (τ := τ ++ [some v]) (θ := θ ++ [k.sl]) (by rw [← List.append_assoc, ← List.append_assoc]; exact R') hl' τ.length (app_last _ _) (getN hτ.symm) hs e1
  exact ⟨b, rd.bool, q b ρ' H' F' hp hl' R'.pop⟩
theorem ct_val (h : CO (S := S) X e t) (he : ∀ whole, isTrue e X.env whole = (do let v ← whole; standAt e.pos; holding [v] (truthy v)) := by intro _; rfl) : CT (S := S) X e (dTst t) := pt_mono (pt_val h he) fun _ _ _ q => tst_step q
theorem ct_cmp {op : CmpOp} {g : D → D → Option Rs} (ho : OpD X (compareOp op) g) (ha : CO (S := S) X a t) (hb : CO (S := S) X b u) (hm : behindInMarks op b = false := by first | exact nomark _ | rfl) : CT (S := S) X (.Compare a [op] [b] pos) (dTst (tmpD (dBin g t u))) :=
  pt_mono (pt_cmpR ho ha hb hm) fun _ _ _ q => by
    obtain h := tst_step q
    exact bin_step h
variable {tA tB' tC : (BW S)} {rest : List Expr}
def dNot (t : (BW S)) : (BW S) := fun ρ P => t ρ fun b ρ' => P (!b) ρ'
theorem ct_not (h : CT (S := S) X a tA) : CT (S := S) X (.UnaryOp .Not a pos) (dNot tA) := pt_mono (pt_not h) fun σ H Q ⟨B, pa, τ, F, ρ, θ, P, R, hl, h, q⟩ =>
  ⟨B, pa, τ, F, ρ, θ, _, R, hl, h, fun b ρ' H' F' hp hl' R' => q (!b) ρ' H' F' hp hl' R'⟩
def dAnd (t u : (BW S)) : (BW S) := fun ρ P => t ρ fun b ρ' => if b = true then u ρ' P else P false ρ'
def dOr (t u : (BW S)) : (BW S) := fun ρ P => t ρ fun b ρ' => if b = true then P true ρ' else u ρ' P
theorem cw_and1 (ha : CT (S := S) X a tA) : CW (S := S) X (.BoolOp .And [a] pos) tA := pw_and1 ha
theorem cw_or1 (ha : CT (S := S) X a tA) : CW (S := S) X (.BoolOp .Or [a] pos) tA := pw_or1 ha
theorem cw_and (ha : CT (S := S) X a tA) (hb : CW (S := S) X (.BoolOp .And (b :: rest) pos) tB') : CW (S := S) X (.BoolOp .And (a :: b :: rest) pos) (dAnd tA tB') := pw_mono (pw_and ha hb) fun σ H Q ⟨B, pa, τ, F, ρ, θ, P, R, hl, h, q⟩ =>
  ⟨B, pa, τ, F, ρ, θ, _, R, hl, h, fun b ρ' H' F' hp hl' R' => by
    cases b with
    | true => exact iteT ⟨B, pa, τ, F', ρ', θ, P, R', hl', hp, q⟩
    | false => exact iteF (q false ρ' H' F' hp hl' R')⟩
theorem cw_or (ha : CT (S := S) X a tA) (hb : CW (S := S) X (.BoolOp .Or (b :: rest) pos) tB') : CW (S := S) X (.BoolOp .Or (a :: b :: rest) pos) (dOr tA tB') := pw_mono (pw_or ha hb) fun σ H Q ⟨B, pa, τ, F, ρ, θ, P, R, hl, h, q⟩ =>
  ⟨B, pa, τ, F, ρ, θ, _, R, hl, h, fun b ρ' H' F' hp hl' R' => by
    cases b with
    | true => exact iteT (q true ρ' H' F' hp hl' R')
    | false => exact iteF ⟨B, pa, τ, F', ρ', θ, P, R', hl', hp, q⟩⟩
theorem ct_w (h : CW (S := S) X e tA) : CT (S := S) X e tA := h.pt
def dAndV (t u : (DW S)) : (DW S) := fun ρ P => t ρ fun r ρ1 => gets (D.bool? r.d) fun b => if b = true then u ρ1 P else P (.val (.bool false)) ρ1
def dOrV (t u : (DW S)) : (DW S) := fun ρ P => t ρ fun r ρ1 => gets (D.bool? r.d) fun b => if b = true then P (.val (.bool true)) ρ1 else u ρ1 P
variable {tv uv : (DW S)}
theorem bl_of {K : Fg} {B : Bs} {pa : Option Addr} {σ : L2.St} {τ : List (Option V)} {H F : Hp} {ρ θ : List Sl} {pn : S} {r : Rs} {v : V} {b : Bool} (R : Rel K B pa (σ ++ τ ++ [some v]) H F (ρ ++ θ ++ [r.sl]) pn) (hb : D.bool? r.d = some b) : v = .bl b := by
  have e := D.bool?_some hb
  have hl := R.pop.len
  have rd := slot_read (s := r.sl) (d := r.d) (v := v) R (c := (ρ ++ θ).length) (app_last _ _) (by rw [← hl]; exact app_last _ _) (Rs.rd_sl r)
  rw [e] at rd
  exact rd.bool
theorem ce_one {op} (h : CE (S := S) X a tv) : CE (S := S) X (.BoolOp op [a] pos) tv := pe_one h
theorem ce_and (ha : CE (S := S) X a tv) (hb : CE (S := S) X (.BoolOp .And (b :: rest) pos) uv) : CE (S := S) X (.BoolOp .And (a :: b :: rest) pos) (dAndV tv uv) := pe_mono (pe_and ha hb) fun σ H Q ⟨B, pa, τ, F, ρ, θ, P, R, hl, h, q⟩ => by
  have mid : ∀ k ρ' v H' F', (∃ r, k = Tk.tmp r ∧ gets (D.bool? r.d) fun b => if b = true then uv ρ' (fun r ρ' => P (.tmp r) ρ') else P (.tmp (.val (.bool false))) ρ') → ρ'.sl.length = σ.length → Rel X.K B pa (σ ++ τ ++ [some v]) H' F' (ρ'.sl ++ θ ++ [k.sl]) ρ'.pn →
      ∃ c, v = .bl c ∧ if c = true then liftO X.K (tmpD uv) σ H' Q else Q (.bl false) H' := by
    rintro k ρ' v H' F' ⟨r, rfl, hp⟩ hl' R'
    obtain ⟨b, eb, hp⟩ := gets_elim hp
    refine ⟨b, bl_of R' eb, ?_⟩
    cases b with
    | true => exact iteT ⟨B, pa, τ, F', ρ', θ, P, R'.pop, hl', hp, q⟩
    | false => exact iteF (q _ _ _ H' F' hp hl' (R'.pop.pushVal (d := .bool false) (DR.bl_.mpr rfl)) (fun j e => by cases e))
  refine ⟨B, pa, τ, F, ρ, θ, fun k ρ' => ∃ r, k = Tk.tmp r ∧ gets (D.bool? r.d) fun b => if b = true then uv ρ' (fun r ρ' => P (.tmp r) ρ') else P (.tmp (.val (.bool false))) ρ', R, hl, ?_, fun k ρ' v H' F' hp hl' R' _ => mid k ρ' v H' F' hp hl' R'⟩
  have h : tv ρ fun r ρ1 => gets (D.bool? r.d) fun b => if b = true then uv ρ1 (fun r ρ' => P (.tmp r) ρ') else P (.tmp (.val (.bool false))) ρ1 := h
  show tv ρ fun r ρ1 => ∃ r', Tk.tmp r = Tk.tmp r' ∧ gets (D.bool? r'.d) fun b => if b = true then uv ρ1 (fun r ρ' => P (.tmp r) ρ') else P (.tmp (.val (.bool false))) ρ1
  have ee : (fun (r : Rs) (ρ1 : (En S)) => ∃ r', Tk.tmp r = Tk.tmp r' ∧ gets (D.bool? r'.d) fun b => if b = true then uv ρ1 (fun r ρ' => P (.tmp r) ρ') else P (.tmp (.val (.bool false))) ρ1)
      = fun r ρ1 => gets (D.bool? r.d) fun b => if b = true then uv ρ1 (fun r ρ' => P (.tmp r) ρ') else P (.tmp (.val (.bool false))) ρ1 := by
    funext r ρ1
    apply propext
    constructor
    · rintro ⟨r', e, h⟩; cases e; exact h
    · intro h; exact ⟨r, rfl, h⟩
  rw [ee]
  exact h
end
end Dk
namespace Dk
open PySem PySem.Spec PyProof.Rows L2
variable {S : Type} [StK S]
theorem toE {K : Fg} {t : (DW S)} {σ : L2.St} {H : Hp} {Q : VK} (h : liftO K (tmpD t) σ H Q) : ∃ B pa τ F ρ θ, ∃ P : Rs → (En S) → Prop, Rel K B pa (σ ++ τ) H F (ρ.sl ++ θ) ρ.pn ∧ ρ.sl.length = σ.length ∧ t ρ P ∧
    ∀ r ρ' v H' F', P r ρ' → ρ'.sl.length = σ.length → Rel K B pa (σ ++ τ ++ [some v]) H' F' (ρ'.sl ++ θ ++ [r.sl]) ρ'.pn → Q v H' := by
  obtain ⟨B, pa, τ, F, ρ, θ, P, R, hl, h, q⟩ := h
  exact ⟨B, pa, τ, F, ρ, θ, fun r ρ' => P (.tmp r) ρ', R, hl, h, fun r ρ' v H' F' hp hl' R' => q (.tmp r) ρ' v H' F' hp hl' R' fun i e => by cases e⟩
theorem ofE {K : Fg} {t : (DW S)} {σ : L2.St} {H : Hp} {Q : VK} (h : ∃ B pa τ F ρ θ, ∃ P : Rs → (En S) → Prop, Rel K B pa (σ ++ τ) H F (ρ.sl ++ θ) ρ.pn ∧ ρ.sl.length = σ.length ∧ t ρ P ∧
    ∀ r ρ' v H' F', P r ρ' → ρ'.sl.length = σ.length → Rel K B pa (σ ++ τ ++ [some v]) H' F' (ρ'.sl ++ θ ++ [r.sl]) ρ'.pn → Q v H') : liftO K (tmpD t) σ H Q := by
  obtain ⟨B, pa, τ, F, ρ, θ, P, R, hl, h, q⟩ := h
  refine ⟨B, pa, τ, F, ρ, θ, fun k ρ' => match k with | .tmp r => P r ρ' | _ => False, R, hl, h, fun k ρ' v H' F' hp hl' R' _ => ?_⟩
  cases k with
  | tmp r => exact q r ρ' v H' F' hp hl' R'
  | slot i => exact hp.elim
  | bt i => exact hp.elim
  | fb i => exact hp.elim
section
variable {X : Cx} {e a b c : Expr} {es : List Expr} {t u : (OW S)} {pos : Pos} {tv uv : (DW S)} {rest : List Expr} {tA tB' : (BW S)}
def dNotV (t : (DW S)) : (DW S) := fun ρ P => t ρ fun r ρ1 => gets (D.bool? r.d) fun b => P (.val (.bool (!b))) ρ1
def dIf (t : (BW S)) (u v : (OW S)) : (OW S) := fun ρ P => t ρ fun b ρ1 => if b = true then u ρ1 P else v ρ1 P
def dIfE (t : (BW S)) (u v : (DW S)) : (DW S) := fun ρ P => t ρ fun b ρ1 => if b = true then u ρ1 P else v ρ1 P
theorem ce_if (hc : CT (S := S) X c tA) (ha : CE (S := S) X a tv) (hb : CE (S := S) X b uv) : CE (S := S) X (.IfExp c a b pos) (dIfE tA tv uv) := pe_mono (pe_ifExp hc ha hb) fun σ H Q h => by
  obtain ⟨B, pa, τ, F, ρ, θ, P, R, hl, h, q⟩ := toE h
  refine ⟨B, pa, τ, F, ρ, θ, _, R, hl, h, fun b ρ' H' F' hp hl' R' => ?_⟩
  cases b with
  | true => exact iteT (ofE ⟨B, pa, τ, F', ρ', θ, P, R', hl', hp, q⟩)
  | false => exact iteF (ofE ⟨B, pa, τ, F', ρ', θ, P, R', hl', hp, q⟩)
def Rs.b? (r : Rs) : Option Bool := D.bool? r.d
def dChain (g g' : D → D → Option Rs) (ta tb tc : (OW S)) : (DW S) := fun ρ P => ta ρ fun k1 ρ1 => tb ρ1 fun k2 ρ2 => gets (k1.rd ρ2) fun d1 => gets (k2.rd ρ2) fun d2 => gets ((g d1 d2).bind Rs.b?) fun b =>
  if b = true then tc ρ2 fun k3 ρ3 => gets (k2.rd ρ3) fun d2' => gets (k3.rd ρ3) fun d3 => gets (g' d2' d3) fun r => P r ρ3 else P (.val (.bool false)) ρ2
def dUn (g : D → Option Rs) (t : (OW S)) : (DW S) := fun ρ P => t ρ fun k ρ1 => gets (k.rd ρ1) fun d => gets (g d) fun r => P r ρ1
def UnD (K : Fg) (g : D → Option Rs) : V → Hp → VK → Prop := fun x H Q => ∃ F d r, (Szs H ∧ Le F H) ∧ RdD K H F d x ∧ g d = some r ∧ Gives K F H r Q
theorem un_step {K : Fg} {g : D → Option Rs} {t : (OW S)} {σ : L2.St} {H : Hp} {Q : VK} (h : liftO K (tmpD (dUn g t)) σ H Q) : liftO K t σ H fun x H1 => UnD K g x H1 Q := by
  obtain ⟨B, pa, τ, F, ρ, θ, P, R, hl, h, q⟩ := toE h
  refine ⟨B, pa, τ, F, ρ, θ, _, R, hl, h, fun k1 ρ1 v1 H1 F1 h1 hl1 R1 s1 => ?_⟩
  obtain ⟨d1, e1, h1⟩ := gets_elim h1
  obtain ⟨r, e2, h1⟩ := gets_elim h1
  have hτ : τ.length = θ.length := by have := R1.pop.len; simp at this; omega
  have R2 : Rel K B pa (σ ++ (τ ++ [some v1])) H1 F1 (ρ1.sl ++ (θ ++ [k1.sl])) ρ1.pn := by simpa only [List.append_assoc] using R1
  exact ⟨F1, d1, r, ⟨R1.sz, R1.fh⟩, read_at R2 hl1 τ.length (app_last _ _) (getN hτ.symm) s1 e1, e2, R1.pop.gives fun v H' F' R' => q _ _ v H' F' h1 hl1 R'⟩
def aNil : (AW S) := fun ρ P => P [] ρ
def aCons (t : (OW S)) (u : (AW S)) : (AW S) := fun ρ P => t ρ fun k ρ1 => u ρ1 fun ks ρ2 => P (k :: ks) ρ2
theorem ca_nil : CA (S := S) X [] aNil := pa_mono pa_nil fun σ H Q ⟨B, pa, τ, F, ρ, θ, P, R, hl, h, q⟩ => q [] ρ [] H F h hl rfl (by simpa using R) (fun j i v e => by simp at e)
theorem ca_cons {ta : (OW S)} {tr : (AW S)} (ha : CO (S := S) X a ta) (hr : CA (S := S) X es tr) (hs : starEach (a :: es) X.env = (false, eval a X.env) :: starEach es X.env := by rfl) : CA (S := S) X (a :: es) (aCons ta tr) :=
  pa_mono (pa_cons ha hr hs) fun σ H Q ⟨B, pa, τ, F, ρ, θ, P, R, hl, h, q⟩ => by
    refine ⟨B, pa, τ, F, ρ, θ, _, R, hl, h, fun k1 ρ1 v1 H1 F1 h1 hl1 R1 s1 => ?_⟩
    refine ⟨B, pa, τ ++ [some v1], F1, ρ1, θ ++ [k1.sl], _, by simpa only [List.append_assoc] using R1, hl1, h1, fun ks ρ2 vs H2 F2 h2 hl2 hk R2 s2 => ?_⟩
    refine q (k1 :: ks) ρ2 (v1 :: vs) H2 F2 h2 hl2 (by simp [hk]) (by simpa only [List.append_assoc, List.map_cons, List.singleton_append] using R2) fun j i v e1 e2 => ?_
    cases j with
    | zero =>
      simp at e1 e2
      subst e1 e2
      exact s1 i rfl
    | succ j => exact s2 j i v (by simpa using e1) (by simpa using e2)
def rds (ρ : En S) : List Tk → Option (List D)
  | [] => some []
  | k :: ks => (k.rd ρ).bind fun d => (rds ρ ks).bind fun ds => some (d :: ds)
@[simp] theorem rds_nil {ρ : En S} : rds ρ [] = some [] := rfl
theorem rds_cons {ρ : En S} {k : Tk} {ks : List Tk} : rds ρ (k :: ks) = (k.rd ρ).bind fun d => (rds ρ ks).bind fun ds => some (d :: ds) := rfl
theorem reads_all {K : Fg} {B : Bs} {pa : Option Addr} {σ : L2.St} {H F : Hp} {ρ : En S} (hl : ρ.sl.length = σ.length) : ∀ (ks : List Tk) (vs : List V) (τ : List (Option V)) (θ : List Sl) (ds : List D),
    τ.length = θ.length → ks.length = vs.length → Rel K B pa (σ ++ (τ ++ vs.map some)) H F (ρ.sl ++ (θ ++ ks.map Tk.sl)) ρ.pn → (∀ (j : Nat) i v, ks[j]? = some (.slot i) → vs[j]? = some v → σ[i]? = some (some v)) → rds ρ ks = some ds → RdDs K H F ds vs := by
  intro ks
  induction ks with
  | nil =>
    intro vs τ θ ds _ hk _ _ h
    cases vs with
    | nil => cases h; rfl
    | cons _ _ => simp at hk
  | cons k ks ih =>
    intro vs τ θ ds ht hk R s h
    cases vs with
    | nil => simp at hk
    | cons v vs =>
      rw [rds_cons] at h
      obtain ⟨d, e1, h⟩ := Option.bind_eq_some_iff.mp h
      obtain ⟨ds', e2, h⟩ := Option.bind_eq_some_iff.mp h
      cases h
      refine ⟨v, vs, rfl, ?_, ?_⟩
      · exact read_at R hl τ.length (by simp) (by rw [ht]; simp) (fun i e => s 0 i v (by simp [e]) rfl) e1
      · refine ih vs (τ ++ [some v]) (θ ++ [k.sl]) ds' (by simp [ht]) (by simpa using hk) (by simpa only [List.append_assoc, List.map_cons, List.singleton_append] using R) (fun j i u h1 h2 => s (j + 1) i u (by simpa using h1) (by simpa using h2)) e2
def CallD (X : Cx) (f : Value) (g : List D → Option Rs) : Prop := CallR X f fun xs H Q => ∃ F ds r, (Szs H ∧ Le F H) ∧ RdDs X.K H F ds xs ∧ g ds = some r ∧ Gives X.K F H r Q
def dCB (g : List D → Option Rs) (ta : (AW S)) : (DW S) := fun ρ P => ta ρ fun ks ρ1 => gets (rds ρ1 ks) fun ds => gets (g ds) fun r => P r ρ1
theorem cb_step {K : Fg} {g : List D → Option Rs} {ta : (AW S)} {σ : L2.St} {H : Hp} {Q : VK} (h : liftO K (tmpD (dCB g ta)) σ H Q) : liftA K ta σ H fun vs H1 => ∃ F ds r, (Szs H1 ∧ Le F H1) ∧ RdDs K H1 F ds vs ∧ g ds = some r ∧ Gives K F H1 r Q := by
  obtain ⟨B, pa, τ, F, ρ, θ, P, R, hl, h, q⟩ := toE h
  refine ⟨B, pa, τ, F, ρ, θ, _, R, hl, h, fun ks ρ1 vs H1 F1 h1 hl1 hk R1 s1 => ?_⟩
  obtain ⟨ds, e1, h1⟩ := gets_elim h1
  obtain ⟨r, e2, h1⟩ := gets_elim h1
  have R2 : Rel K B pa (σ ++ τ) H1 F1 (ρ1.sl ++ θ) ρ1.pn := R1.pops (by simp [hk])
  have hτ : τ.length = θ.length := by have := R2.len; simp at this; omega
  exact ⟨F1, ds, r, ⟨R1.sz, R1.fh⟩, reads_all hl1 ks vs τ θ ds hτ hk (by simpa only [List.append_assoc] using R1) s1 e1, e2, R2.gives fun v H' F' R' => q _ _ v H' F' h1 hl1 R'⟩
theorem ce_callB {x : Str} {p : Pos} {id : String} {g : List D → Option Rs} {ta : (AW S)} (hc : CallD X (.builtin id) g) (hm : X.mg x = none) (hv : bootBuiltins x = some (.builtin id)) (ha : CA (S := S) X (a :: es) ta) (hg : Gl X x := by rfl) (hn : x ≠ "__name__" := by decide) (hdb : (x == ("__debug__" : Str)) = false := by decide)
    (he : starEach (a :: es) X.env = (false, eval a X.env) :: starEach es X.env := by rfl) (hpl : (backTo pos (starEach es X.env)).any (·.1) = false := by rfl) : CE (S := S) X (.Call (.Name x p) (a :: es) [] pos) (dCB g ta) :=
  pe_mono (pe_callB hc hg hm hv ha hn hdb he hpl) fun _ _ _ h => cb_step h
theorem ce_callTy {x : Str} {p : Pos} {id : String} {g : List D → Option Rs} {ta : (AW S)} (hc : CallD X (.type id) g) (hm : X.mg x = none) (hv : bootBuiltins x = some (.type id)) (ha : CA (S := S) X (a :: es) ta) (hg : Gl X x := by rfl) (hn : x ≠ "__name__" := by decide) (hdb : (x == ("__debug__" : Str)) = false := by decide)
    (he : starEach (a :: es) X.env = (false, eval a X.env) :: starEach es X.env := by rfl) (hpl : (backTo pos (starEach es X.env)).any (·.1) = false := by rfl) : CE (S := S) X (.Call (.Name x p) (a :: es) [] pos) (dCB g ta) :=
  pe_mono (pe_callTy hc hg hm hv ha hn hdb he hpl) fun _ _ _ h => cb_step h
def vals : List Tk → Option (List D)
  | [] => some []
  | .tmp (.val d) :: ks => (vals ks).bind fun ds => some (d :: ds)
  | _ :: _ => none
theorem vals_rds {ρ : En S} : ∀ {ks : List Tk} {ds : List D}, vals ks = some ds → ks.map Tk.sl = ds.map Sl.val
  | [], ds, h => by cases h; rfl
  | .tmp (.val d) :: ks, ds, h => by
    obtain ⟨ds', e1, h⟩ := Option.bind_eq_some_iff.mp h
    cases h
    rw [List.map_cons, List.map_cons, vals_rds (ρ := ρ) e1]
    rfl
  | .tmp (.own _) :: ks, ds, h => by cases h
  | .slot _ :: ks, ds, h => by cases h
  | .bt _ :: ks, ds, h => by cases h
theorem vals_DRs {K : Fg} {B : Bs} {pa : Option Addr} {H F : Hp} {pn : S} : ∀ (ds : List D) (vs : List V) (zs : List (Option V)) (ws : List Sl), ds.length = vs.length → zs.length = ws.length → Rel K B pa (zs ++ vs.map some) H F (ws ++ ds.map Sl.val) pn → DRs K F ds vs := by
  intro ds
  induction ds with
  | nil =>
    intro vs _ _ h _ _
    cases vs with
    | nil => exact .nil
    | cons _ _ => simp at h
  | cons d ds ih =>
    intro vs zs ws h hz R
    cases vs with
    | nil => simp at h
    | cons v vs =>
      refine .cons ?_ (ih vs (zs ++ [some v]) (ws ++ [.val d]) (by simpa using h) (by simp [hz]) (by simpa only [List.append_assoc, List.map_cons, List.singleton_append] using R))
      obtain ⟨o, h1, u, h2, h3⟩ := R.sl ws.length (.val d) (by simp)
      rw [← hz] at h1
      simp at h1
      subst h1
      cases h2
      exact h3
def dDisp (mk : List D → Rs) (ta : (AW S)) : (DW S) := fun ρ P => ta ρ fun ks ρ1 => gets (vals ks) fun ds => ds.length ≤ 1000 ∧ P (mk ds) ρ1
theorem disp_step {K : Fg} {mk : List D → Rs} {ta : (AW S)} {σ : L2.St} {H : Hp} {Q : VK} (h : liftO K (tmpD (dDisp mk ta)) σ H Q) : liftA K ta σ H fun vs H1 => vs.length ≤ sizeLine ∧ ∃ F ds, DRs K F ds vs ∧ Gives K F H1 (mk ds) Q := by
  obtain ⟨B, pa, τ, F, ρ, θ, P, R, hl, h, q⟩ := toE h
  refine ⟨B, pa, τ, F, ρ, θ, _, R, hl, h, fun ks ρ1 vs H1 F1 h1 hl1 hk R1 s1 => ?_⟩
  obtain ⟨ds, e1, hz, h1⟩ := gets_elim h1
  have e2 := vals_rds (ρ := ρ1) e1
  have R2 : Rel K B pa (σ ++ τ) H1 F1 (ρ1.sl ++ θ) ρ1.pn := R1.pops (by simp [hk])
  rw [e2] at R1
  have hds : ds.length = vs.length := by have := congrArg List.length e2; simp at this; omega
  exact ⟨Nat.le_trans (by omega : vs.length ≤ 1000) (by decide), F1, ds, vals_DRs ds vs _ _ hds R2.len R1, R2.gives fun v H' F' R' => q _ _ v H' F' h1 hl1 R'⟩
theorem ce_tup {x1} {ta : (AW S)} (h : CA (S := S) X es ta) : CE (S := S) X (.Tuple es x1 pos) (dDisp (fun ds => .val (.tuple ds)) ta) := pe_mono (pe_tupC h) fun σ H Q q => by
  obtain ⟨B, pa, τ, F, ρ, θ, P, R, hl, h, q⟩ := disp_step q
  refine ⟨B, pa, τ, F, ρ, θ, P, R, hl, h, fun ks ρ' vs H' F' hp hl' hk R' s => ?_⟩
  obtain ⟨h1, F2, ds, h2, h3⟩ := q ks ρ' vs H' F' hp hl' hk R' s
  exact ⟨h1, h3.2.1 ds vs rfl h2 h1⟩
theorem ce_lst {ta : (AW S)} (h : CA (S := S) X es ta) : CE (S := S) X (.List es pos) (dDisp (fun ds => .own ds) ta) := pe_mono (pe_lst h) fun σ H Q q => by
  obtain ⟨B, pa, τ, F, ρ, θ, P, R, hl, h, q⟩ := disp_step q
  refine ⟨B, pa, τ, F, ρ, θ, P, R, hl, h, fun ks ρ' vs H' F' hp hl' hk R' s => ?_⟩
  obtain ⟨h1, F2, ds, h2, h3⟩ := q ks ρ' vs H' F' hp hl' hk R' s
  exact ⟨h1, fun p hp => h3 vs p h2 h1 hp⟩
end
end Dk
namespace Dk
open PySem PySem.Spec PyProof.Rows L2
variable {S : Type} [StK S]
structure XO (X : Cx) (k : Nat) : Prop where
  calm : X.calm = true
  room : Room k X.A
  gd : X.A.guards = some []
  nd : X.N.Nodup
  pass : PassesOwn (model X.prog X.w) X.A X.env X.xe
theorem XO.mono {X : Cx} {k j : Nat} (h : XO X k) (hj : j ≤ k) : XO X j := ⟨h.calm, h.room.mono hj, h.gd, h.nd, h.pass⟩
theorem gets_ite {α : Type} {c : Prop} [Decidable c] {a : α} {k : α → Prop} : gets (if c then some a else none) k ↔ c ∧ k a := by
  by_cases h : c
  · rw [if_pos h]; exact ⟨fun q => ⟨h, q⟩, fun q => q.2⟩
  · rw [if_neg h]; exact ⟨fun q => q.elim, fun q => absurd q.1 h⟩
theorem some_ite {α : Type} {c : Prop} [Decidable c] {a b : α} (h : (if c then some a else none) = some b) : c ∧ a = b := by
  by_cases hc : c
  · rw [if_pos hc] at h; exact ⟨hc, Option.some.inj h⟩
  · rw [if_neg hc] at h; cases h
def bl (b : Bool) : Rs := .val (.bool b)
def ri (i : Int) : Rs := .val (.int i)
section
variable {K : Fg} {F H : Hp} {Q : VK}
theorem Gives.bl_ {b : Bool} (q : Gives K F H (bl b) Q) : Q (.bl b) H := q.1 _ (DR.bl_.mpr rfl)
theorem Gives.ri_ {i : Int} (q : Gives K F H (ri i) Q) : Q (.int i) H := q.1 _ (DR.int_.mpr rfl)
theorem Gives.str_ {x : Str} (q : Gives K F H (.val (.str x)) Q) : Q (.str x) H := q.1 _ (DR.str_.mpr rfl)
theorem Gives.non_ (q : Gives K F H (.val .none) Q) : Q .non H := q.1 _ (DR.non_.mpr rfl)
end
theorem DRs.inj_ints {K : Fg} {F : Hp} {ds : List D} {ns : List Int} {vs : List V} (h : DRs K F ds vs) (e : ds = ns.map .int) : vs = ns.map V.int := by subst e; exact h.ints
instance {i j : Int} : Decidable (CMulW i j) := by unfold CMulW; infer_instance
instance {i j : Int} : Decidable (CDivW i j) := by unfold CDivW; infer_instance
instance {i j : Int} : Decidable (CPow i j) := by unfold CPow; infer_instance
def addD : D → D → Option Rs
  | .int i, .int j => some (ri (i + j))
  | .list xs, .list ys => if xs.length + ys.length ≤ sizeLine then some (.own (xs ++ ys)) else none
  | .tuple xs, .tuple ys => if xs.length + ys.length ≤ sizeLine then some (.val (.tuple (xs ++ ys))) else none
  | .str x, .str y => if x.length + y.length ≤ sizeLine then some (.val (.str (x ++ y))) else none
  | _, _ => none
def subD : D → D → Option Rs
  | .int i, .int j => some (ri (i - j))
  | _, _ => none
def mulD : D → D → Option Rs
  | .int i, .int j => if CMulW i j then some (ri (i * j)) else none
  | .list xs, .int k => if -(2 ^ 63) ≤ k ∧ k < 2 ^ 63 ∧ xs.length * k.toNat ≤ sizeLine then some (.own (List.replicate k.toNat xs).flatten) else none
  | _, _ => none
def fdivD : D → D → Option Rs
  | .int i, .int j => if CDivW i j then some (ri (i / j)) else none
  | _, _ => none
def modD : D → D → Option Rs
  | .int i, .int j => if 0 < j then some (ri (i % j)) else none
  | _, _ => none
def powD : D → D → Option Rs
  | .int i, .int j => if CPow i j then some (ri (i ^ j.toNat)) else none
  | _, _ => none
section
variable {X : Cx} {k : Nat}
theorem len_rep {α : Type} (xs : List α) : ∀ n, (List.replicate n xs).flatten.length = n * xs.length
  | 0 => by simp
  | n + 1 => by rw [List.replicate_succ, List.flatten_cons, List.length_append, len_rep xs n, Nat.succ_mul]; omega
theorem od_add : OpD X (binaryOp .Add) addD := by
  intro pins s σ H x y v u Q I rx ry ⟨F, d, e, r, ⟨hz0, hF⟩, hd, he, hg, q⟩
  unfold addD at hg
  split at hg
  · cases hg
    exact op_add pins s σ H x y v u Q I rx ry ⟨_, _, hd.int, he.int, q.ri_⟩
  · obtain ⟨hz, rfl⟩ := some_ite hg
    obtain ⟨a, vs, rfl, ha, ra⟩ := hd.list hF
    obtain ⟨b, us, rfl, hb, rb⟩ := he.list hF
    exact op_cat pins s σ H _ _ v u Q I rx ry ⟨a, b, vs, us, rfl, rfl, ha, hb, by rw [ra.len, rb.len]; exact hz, fun p hp => q _ p (ra.append rb) (by rw [List.length_append, ra.len, rb.len]; exact hz) hp⟩
  · obtain ⟨hz, rfl⟩ := some_ite hg
    obtain ⟨a, vs, rfl, ha, ra⟩ := hd.tuple hF
    obtain ⟨b, us, rfl, hb, rb⟩ := he.tuple hF
    rename_i xs ys
    refine op_catC pins s σ H _ _ v u Q I rx ry ⟨a, b, vs, us, rfl, rfl, ha, hb, by rw [ra.len, rb.len]; exact hz, fun e => ?_, fun _ e => ?_, q.2.1 _ _ rfl (ra.append rb) (by rw [List.length_append, ra.len, rb.len]; exact hz)⟩
    · subst e
      have : xs = [] := List.length_eq_zero_iff.mp (by have := ra.len; simpa using this.symm)
      subst this
      rcases he with he | ⟨_, _, _, h, _⟩
      · exact q.1 _ he
      · cases h
    · subst e
      have : ys = [] := List.length_eq_zero_iff.mp (by have := rb.len; simpa using this.symm)
      subst this
      rcases hd with hd | ⟨_, _, _, h, _⟩
      · exact q.1 _ (by simpa using hd)
      · cases h
  · obtain ⟨hz, rfl⟩ := some_ite hg
    exact op_add_str pins s σ H x y v u Q I rx ry ⟨_, _, hd.str, he.str, hz, q.str_⟩
  · cases hg
theorem od_sub : OpD X (binaryOp .Sub) subD := by
  intro pins s σ H x y v u Q I rx ry ⟨F, d, e, r, ⟨hz0, hF⟩, hd, he, hg, q⟩
  unfold subD at hg
  split at hg
  · cases hg
    exact op_sub pins s σ H x y v u Q I rx ry ⟨_, _, hd.int, he.int, q.ri_⟩
  · cases hg
theorem od_mul : OpD X (binaryOp .Mult) mulD := by
  intro pins s σ H x y v u Q I rx ry ⟨F, d, e, r, ⟨hz0, hF⟩, hd, he, hg, q⟩
  unfold mulD at hg
  split at hg
  · obtain ⟨hz, rfl⟩ := some_ite hg
    exact op_mulW pins s σ H x y v u Q I rx ry ⟨_, _, hd.int, he.int, hz, q.ri_⟩
  · obtain ⟨⟨h1, h2, h3⟩, rfl⟩ := some_ite hg
    obtain ⟨a, vs, rfl, ha, ra⟩ := hd.list hF
    exact op_rep pins s σ H _ y v u Q I rx ry ⟨a, _, vs, rfl, he.int, ha, h1, h2, by rw [ra.len]; exact h3, fun p hp => q _ p (ra.rep _) (by rw [len_rep, ra.len, Nat.mul_comm]; exact h3) hp⟩
  · cases hg
theorem od_fdiv : OpD X (binaryOp .FloorDiv) fdivD := by
  intro pins s σ H x y v u Q I rx ry ⟨F, d, e, r, ⟨hz0, hF⟩, hd, he, hg, q⟩
  unfold fdivD at hg
  split at hg
  · obtain ⟨hz, rfl⟩ := some_ite hg
    exact op_fdivW pins s σ H x y v u Q I rx ry ⟨_, _, hd.int, he.int, hz, q.ri_⟩
  · cases hg
theorem od_mod : OpD X (binaryOp .Mod) modD := by
  intro pins s σ H x y v u Q I rx ry ⟨F, d, e, r, ⟨hz0, hF⟩, hd, he, hg, q⟩
  unfold modD at hg
  split at hg
  · obtain ⟨hz, rfl⟩ := some_ite hg
    exact op_mod pins s σ H x y v u Q I rx ry ⟨_, _, hd.int, he.int, hz, q.ri_⟩
  · cases hg
theorem od_pow : OpD X (binaryOp .Pow) powD := by
  intro pins s σ H x y v u Q I rx ry ⟨F, d, e, r, ⟨hz0, hF⟩, hd, he, hg, q⟩
  unfold powD at hg
  split at hg
  · obtain ⟨hz, rfl⟩ := some_ite hg
    exact op_pow pins s σ H x y v u Q I rx ry ⟨_, _, hd.int, he.int, hz, q.ri_⟩
  · cases hg
def negD : D → Option Rs
  | .int i => some (ri (-i))
  | _ => none
def cmpI (p : Int → Int → Bool) : D → D → Option Rs
  | .int i, .int j => some (bl (p i j))
  | _, _ => none
def ltD : D → D → Option Rs := cmpI fun i j => decide (i < j)
def leD : D → D → Option Rs := cmpI fun i j => decide (i ≤ j)
def gtD : D → D → Option Rs := cmpI fun i j => decide (j < i)
def geD : D → D → Option Rs := cmpI fun i j => decide (j ≤ i)
theorem od_lt : OpD X (compareOp .Lt) ltD := by
  intro pins s σ H x y v u Q I rx ry ⟨F, d, e, r, ⟨hz0, hF⟩, hd, he, hg, q⟩
  unfold ltD cmpI at hg
  split at hg
  · cases hg
    exact op_lt pins s σ H x y v u Q I rx ry ⟨_, _, hd.int, he.int, q.bl_⟩
  · cases hg
theorem od_le : OpD X (compareOp .LtE) leD := by
  intro pins s σ H x y v u Q I rx ry ⟨F, d, e, r, ⟨hz0, hF⟩, hd, he, hg, q⟩
  unfold leD cmpI at hg
  split at hg
  · cases hg
    exact op_le pins s σ H x y v u Q I rx ry ⟨_, _, hd.int, he.int, q.bl_⟩
  · cases hg
theorem od_gt : OpD X (compareOp .Gt) gtD := by
  intro pins s σ H x y v u Q I rx ry ⟨F, d, e, r, ⟨hz0, hF⟩, hd, he, hg, q⟩
  unfold gtD cmpI at hg
  split at hg
  · cases hg
    exact op_gt pins s σ H x y v u Q I rx ry ⟨_, _, hd.int, he.int, q.bl_⟩
  · cases hg
theorem od_ge : OpD X (compareOp .GtE) geD := by
  intro pins s σ H x y v u Q I rx ry ⟨F, d, e, r, ⟨hz0, hF⟩, hd, he, hg, q⟩
  unfold geD cmpI at hg
  split at hg
  · cases hg
    exact op_ge pins s σ H x y v u Q I rx ry ⟨_, _, hd.int, he.int, q.bl_⟩
  · cases hg
mutual
theorem DR.dp {K : Fg} {F H : Hp} (e : Le F H) : ∀ (d : D) (v : V), d.canLay0 = true → DR K F d v → Dp K H v d
  | .none, v, _, h => by rw [DR.non_.mp h]; exact .non
  | .bool b, v, _, h => by rw [DR.bl_.mp h]; exact .bl b
  | .int i, v, _, h => by rw [DR.int_.mp h]; exact .int i
  | .str x, v, _, h => by rw [DR.str_.mp h]; exact .str x
  | .list ds, v, c, h => by
    obtain ⟨a, vs, rfl, h2, h3⟩ := DR.list_.mp h
    exact .lst (.inl (.inl (e _ _ h2))) (DRs.dp e ds vs (by simpa [PyData.canLay0] using c) h3)
  | .tuple ds, v, c, h => by
    obtain ⟨a, vs, rfl, h2, h3⟩ := DR.tuple_s h
    exact .tup (e.t h2) (DRs.dp e ds vs (by simpa [PyData.canLay0] using c) h3)
  | .dict kvs, v, c, h => by simp [PyData.canLay0] at c
theorem DRs.dp {K : Fg} {F H : Hp} (e : Le F H) : ∀ (ds : List D) (vs : List V), PyData.canLayAll0 ds = true → DRs K F ds vs → DpAll K H vs ds
  | [], vs, _, h => by rw [DRs.nil_.mp h]; exact .nil
  | d :: ds, vs, c, h => by
    obtain ⟨v, r, rfl, h2, h3⟩ := DRs.cons_.mp h
    simp only [PyData.canLayAll0, Bool.and_eq_true] at c
    exact .cons (DR.dp e d v c.1 h2) (DRs.dp e ds r c.2 h3)
end
theorem RdD.dp {K : Fg} {F H : Hp} {d : D} {v : V} (h : RdD K H F d v) (e : Le F H) (c : SeqAt.shaped d = true) : Dp K H v d := by
  have c1 := SeqAt.canLay_of_shaped c
  rcases h with h | ⟨ds, a, vs, rfl, rfl, h1, h2⟩
  · exact h.dp e d v c1
  · exact .lst (.inl (.inl h1)) (h2.dp e ds vs (by simpa [PyData.canLay0] using c1))
def isS : D → Bool
  | .str _ => true
  | _ => false
theorem isS_str {d : D} (h : isS d = true) : ∃ x, d = .str x := by cases d <;> first | exact ⟨_, rfl⟩ | cases h
def nilE : D → D → Bool
  | .list _, .list [] => true
  | .tuple _, .tuple [] => true
  | _, _ => false
def eqOk (d e : D) : Bool := ((isS d && isS e) || (SeqAt.shaped d && SeqAt.shaped e)) || nilE d e
theorem nilE_elim {K : Fg} {F H : Hp} {d e : D} {v u : V} (c : nilE d e = true) (hd : RdD K H F d v) (he : RdD K H F e u) (hF : Le F H) : (∃ ds a b vs, d = .list ds ∧ e = .list [] ∧ v = .ref a ∧ u = .ref b ∧ SqL K H a vs ∧ SqL K H b [] ∧ vs.length = ds.length) ∨ (∃ ds a b vs, d = .tuple ds ∧ e = .tuple [] ∧ v = .ref a ∧ u = .ref b ∧ SqT K H a vs ∧ SqT K H b [] ∧ vs.length = ds.length) := by
  unfold nilE at c
  split at c
  · obtain ⟨a, vs, rfl, h1, h2⟩ := hd.list hF
    obtain ⟨b, us, rfl, g1, g2⟩ := he.list hF
    rw [DRs.nil_.mp g2] at g1
    exact .inl ⟨_, a, b, vs, rfl, rfl, rfl, rfl, .inl (.inl h1), .inl (.inl g1), h2.len⟩
  · obtain ⟨a, vs, rfl, h1, h2⟩ := hd.tuple hF
    obtain ⟨b, us, rfl, g1, g2⟩ := he.tuple hF
    rw [DRs.nil_.mp g2] at g1
    exact .inr ⟨_, a, b, vs, rfl, rfl, rfl, rfl, h1, g1, h2.len⟩
  · cases c
theorem eqv_lnil {xs : List D} : PyData.eqv (.list xs) (.list []) = xs.isEmpty := by cases xs <;> rfl
theorem eqv_tnil {xs : List D} : PyData.eqv (.tuple xs) (.tuple []) = xs.isEmpty := by cases xs <;> rfl
theorem isEmpty_len {α β : Type} {xs : List α} {ys : List β} (h : ys.length = xs.length) : (ys.length == 0) = xs.isEmpty := by
  rw [h]; cases xs <;> rfl
def eqD (d e : D) : Option Rs := if eqOk d e = true then some (bl (PyData.eqv d e)) else none
def neD (d e : D) : Option Rs := if eqOk d e = true then some (bl (!PyData.eqv d e)) else none
theorem eqv_str {x y : Str} : PyData.eqv (.str x) (.str y) = decide (V.str x = V.str y) := by
  rw [Bool.eq_iff_iff]
  simp [PyData.eqv]
theorem od_eq (hx : XO X k) : OpD X (compareOp .Eq) eqD := by
  intro pins s σ H x y v u Q I rx ry ⟨F, d, e, r, ⟨hz0, hF⟩, hd, he, hg, q⟩
  obtain ⟨c, rfl⟩ := some_ite hg
  by_cases hs : (isS d && isS e) = true
  · rw [Bool.and_eq_true] at hs
    obtain ⟨a, rfl⟩ := isS_str hs.1
    obtain ⟨b, rfl⟩ := isS_str hs.2
    have hx := hd.str
    have hy := he.str
    subst hx hy
    exact op_eq pins s σ H _ _ v u Q I rx ry ⟨rfl, by rw [← eqv_str]; exact q.bl_⟩
  · by_cases hc : (SeqAt.shaped d && SeqAt.shaped e) = true
    · rw [Bool.and_eq_true] at hc
      exact op_eqD hx.room.units pins s σ H x y v u Q I rx ry ⟨d, e, hd.dp hF hc.1, he.dp hF hc.2, hc.1, hc.2, q.bl_⟩
    · have c : nilE d e = true := by
        unfold eqOk at c
        rw [Bool.or_eq_true, Bool.or_eq_true] at c
        rcases c with (c | c) | c
        · exact absurd c hs
        · exact absurd c hc
        · exact c
      rcases nilE_elim c hd he hF with ⟨ds, a, b, vs, rfl, rfl, rfl, rfl, h1, h2, hl⟩ | ⟨ds, a, b, vs, rfl, rfl, rfl, rfl, h1, h2, hl⟩
      · cases rx
        cases ry
        obtain ⟨its, r1, ⟨o1, n1, p1, p2, _, p3⟩, _⟩ := I.list h1
        obtain ⟨us, r2, ⟨o2, n2, p4, p5, _, p6⟩, _⟩ := I.list h2
        cases r2
        have hne : ds ≠ [] := fun z => hc (by subst z; rfl)
        have hn : (its.toArray.size != ([] : List Value).toArray.size) = true := by
          have := r1.length
          have h0 : ds.length ≠ 0 := fun z => hne (List.length_eq_zero_iff.mp z)
          simp
          intro z
          rw [z, hl] at this
          exact h0 this
        have hv : false = PyData.eqv (.list ds) (.list []) := by
          rw [eqv_lnil]
          cases ds with
          | nil => exact absurd rfl hne
          | cons _ _ => rfl
        exact SeqAt.RcAt.lists_lengths ⟨o1, p1, p2, n1, p3⟩ ⟨o2, p4, p5, n2, p6⟩ hn (Nat.lt_of_le_of_lt (Nat.le_add_right _ 64) hx.room.units) _ _ _ _ ⟨.bl _, H, I, rfl, by rw [hv]; exact q.bl_⟩
      · cases rx
        cases ry
        obtain ⟨its, r1, l1, _⟩ := I.tuple h1
        obtain ⟨us, r2, l2, _⟩ := I.tuple h2
        cases r2
        have e1 : (((List.range (min its.toArray.size ([] : List Value).toArray.size)).all fun _ => true) && its.toArray.size == ([] : List Value).toArray.size) = PyData.eqv (.tuple ds) (.tuple []) := by
          rw [eqv_tnil, ← isEmpty_len hl, r1.length]
          simp
        have := SeqAt.RcAt.tuples (A := X.A) (e := fun _ => true) l1 l2 (Nat.lt_of_le_of_lt (Nat.le_add_right _ 64) hx.room.units) (fun j h1 h2 => absurd h2 (by simp)) X.prog X.w
        exact this _ _ ⟨.bl _, H, I, rfl, by rw [e1]; exact q.bl_⟩
theorem od_ne (hx : XO X k) : OpD X (compareOp .NotEq) neD := by
  intro pins s σ H x y v u Q I rx ry ⟨F, d, e, r, ⟨hz0, hF⟩, hd, he, hg, q⟩
  obtain ⟨c, rfl⟩ := some_ite hg
  by_cases hs : (isS d && isS e) = true
  · rw [Bool.and_eq_true] at hs
    obtain ⟨a, rfl⟩ := isS_str hs.1
    obtain ⟨b, rfl⟩ := isS_str hs.2
    have hx := hd.str
    have hy := he.str
    subst hx hy
    exact op_ne pins s σ H _ _ v u Q I rx ry ⟨rfl, by rw [← eqv_str]; exact q.bl_⟩
  · by_cases hc : (SeqAt.shaped d && SeqAt.shaped e) = true
    · rw [Bool.and_eq_true] at hc
      exact op_neD hx.room.units pins s σ H x y v u Q I rx ry ⟨d, e, hd.dp hF hc.1, he.dp hF hc.2, hc.1, hc.2, q.bl_⟩
    · have c : nilE d e = true := by
        unfold eqOk at c
        rw [Bool.or_eq_true, Bool.or_eq_true] at c
        rcases c with (c | c) | c
        · exact absurd c hs
        · exact absurd c hc
        · exact c
      rcases nilE_elim c hd he hF with ⟨ds, a, b, vs, rfl, rfl, rfl, rfl, h1, h2, hl⟩ | ⟨ds, a, b, vs, rfl, rfl, rfl, rfl, h1, h2, hl⟩
      · cases rx
        cases ry
        obtain ⟨its, r1, ⟨o1, n1, p1, p2, _, p3⟩, _⟩ := I.list h1
        obtain ⟨us, r2, ⟨o2, n2, p4, p5, _, p6⟩, _⟩ := I.list h2
        cases r2
        have hne : ds ≠ [] := fun z => hc (by subst z; rfl)
        have hn : (its.toArray.size != ([] : List Value).toArray.size) = true := by
          have := r1.length
          have h0 : ds.length ≠ 0 := fun z => hne (List.length_eq_zero_iff.mp z)
          simp
          intro z
          rw [z, hl] at this
          exact h0 this
        have hv : true = !PyData.eqv (.list ds) (.list []) := by
          rw [eqv_lnil]
          cases ds with
          | nil => exact absurd rfl hne
          | cons _ _ => rfl
        exact SeqAt.RcNeAt.lists_lengths ⟨o1, p1, p2, n1, p3⟩ ⟨o2, p4, p5, n2, p6⟩ hn (Nat.lt_of_le_of_lt (Nat.le_add_right _ 64) hx.room.units) _ _ _ _ ⟨.bl _, H, I, rfl, by rw [hv]; exact q.bl_⟩
      · cases rx
        cases ry
        obtain ⟨its, r1, l1, _⟩ := I.tuple h1
        obtain ⟨us, r2, l2, _⟩ := I.tuple h2
        cases r2
        have e1 : (((List.range (min its.toArray.size ([] : List Value).toArray.size)).all fun _ => true) && its.toArray.size == ([] : List Value).toArray.size) = PyData.eqv (.tuple ds) (.tuple []) := by
          rw [eqv_tnil, ← isEmpty_len hl, r1.length]
          simp
        have := SeqAt.RcNeAt.tuples (A := X.A) (e := fun _ => true) l1 l2 (Nat.lt_of_le_of_lt (Nat.le_add_right _ 64) hx.room.units) (fun j h1 h2 => absurd h2 (by simp)) X.prog X.w
        exact this _ _ ⟨.bl _, H, I, rfl, by rw [e1]; exact q.bl_⟩
def flatD : D → Bool
  | .none => true
  | .bool _ => true
  | .int _ => true
  | .str _ => true
  | _ => false
theorem flat_V {K : Fg} {F : Hp} {d : D} {v : V} (h : DR K F d v) (f : flatD d = true) : flatV v = true := by
  cases d <;> first | (rw [DR.non_.mp h]; rfl) | (rw [DR.bl_.mp h]; rfl) | (rw [DR.int_.mp h]; rfl) | (rw [DR.str_.mp h]; rfl) | cases f
theorem flat_all {K : Fg} {F : Hp} : ∀ {ds : List D} {vs : List V}, DRs K F ds vs → ds.all flatD = true → vs.all flatV = true
  | [], vs, h, _ => by rw [DRs.nil_.mp h]; rfl
  | d :: ds, vs, h, f => by
    obtain ⟨v, r, rfl, h2, h3⟩ := DRs.cons_.mp h
    rw [List.all_cons, Bool.and_eq_true] at f ⊢
    exact ⟨flat_V h2 f.1, flat_all h3 f.2⟩
theorem flat_eq {K : Fg} {F : Hp} {d e : D} {v u : V} (h : DR K F d v) (f : flatD d = true) (h' : DR K F e u) (f' : flatD e = true) : eqV v u = PyData.eqv d e := by
  cases d with
  | list _ => cases f
  | tuple _ => cases f
  | dict _ => cases f
  | none =>
    rw [DR.non_.mp h]
    cases e <;> first | (rw [DR.non_.mp h']; rfl) | (rw [DR.bl_.mp h']; rfl) | (rw [DR.int_.mp h']; rfl) | (rw [DR.str_.mp h']; rfl) | cases f'
  | bool a =>
    rw [DR.bl_.mp h]
    cases e <;> first | (rw [DR.non_.mp h']; cases a <;> rfl) | (rw [DR.bl_.mp h']; simp [eqV, PyData.eqv]) | (rw [DR.int_.mp h']; simp [eqV, PyData.eqv]) | (rw [DR.str_.mp h']; cases a <;> rfl) | cases f'
  | int a =>
    rw [DR.int_.mp h]
    cases e <;> first | (rw [DR.non_.mp h']; rfl) | (rw [DR.bl_.mp h']; simp [eqV, PyData.eqv]) | (rw [DR.int_.mp h']; simp [eqV, PyData.eqv]) | (rw [DR.str_.mp h']; rfl) | cases f'
  | str a =>
    rw [DR.str_.mp h]
    cases e <;> first | (rw [DR.non_.mp h']; rfl) | (rw [DR.bl_.mp h']; simp [eqV, PyData.eqv]) | (rw [DR.int_.mp h']; rfl) | (rw [DR.str_.mp h']; simp [eqV, PyData.eqv]) | cases f'
end
end Dk
namespace Dk
open PySem PySem.Spec PyProof.Rows L2
variable {S : Type} [StK S]
section
variable {X : Cx} {k : Nat}
def anyEq (x : D) (ds : List D) : Bool := ds.any fun z => PyData.eqv z x
def inD (neg : Bool) (x : D) : D → Option Rs
  | .list ds => if flatD x = true ∧ ds.all flatD = true then some (bl (if neg then !anyEq x ds else anyEq x ds)) else if SeqAt.shaped x = true ∧ SeqAt.shaped (.list ds) = true then some (bl (if neg then !anyEq x ds else anyEq x ds)) else none
  | .tuple ds => if flatD x = true ∧ ds.all flatD = true then some (bl (if neg then !anyEq x ds else anyEq x ds)) else none
  | _ => none
theorem any_flat {K : Fg} {F G : Hp} {d : D} {v : V} (h : DR K F d v) (f : flatD d = true) : ∀ {ds : List D} {vs : List V}, DRs K G ds vs → ds.all flatD = true → inV v vs = anyEq d ds
  | [], vs, h', _ => by rw [DRs.nil_.mp h']; rfl
  | e :: ds, vs, h', f' => by
    obtain ⟨u, r, rfl, h2, h3⟩ := DRs.cons_.mp h'
    rw [List.all_cons, Bool.and_eq_true] at f'
    have ih := any_flat h f h3 f'.2
    unfold inV anyEq at ih ⊢
    rw [List.any_cons, List.any_cons, ih]
    congr 1
    have g1 : DR K (fun _ => none) e u := by
      cases e <;> first | (rw [DR.non_.mp h2]; exact DR.non_.mpr rfl) | (rw [DR.bl_.mp h2]; exact DR.bl_.mpr rfl) | (rw [DR.int_.mp h2]; exact DR.int_.mpr rfl) | (rw [DR.str_.mp h2]; exact DR.str_.mpr rfl) | exact absurd f'.1 (by simp [flatD])
    have g2 : DR K (fun _ => none) d v := by
      cases d <;> first | (rw [DR.non_.mp h]; exact DR.non_.mpr rfl) | (rw [DR.bl_.mp h]; exact DR.bl_.mpr rfl) | (rw [DR.int_.mp h]; exact DR.int_.mpr rfl) | (rw [DR.str_.mp h]; exact DR.str_.mpr rfl) | exact absurd f (by simp [flatD])
    exact flat_eq g1 f'.1 g2 f
theorem RdD.flat {K : Fg} {F H : Hp} {d : D} {v : V} (h : RdD K H F d v) (f : flatD d = true) : DR K F d v := by
  rcases h with h | ⟨ds, a, vs, rfl, _⟩
  · exact h
  · cases f
theorem od_in (hx : XO X k) : OpD X (compareOp .In) (inD false) := by
  intro pins s σ H x y v u Q I rx ry ⟨F, d, e, r, ⟨hz0, hF⟩, hd, he, hg, q⟩
  unfold inD at hg
  split at hg
  · rename_i ds
    split at hg
    · rename_i hc
      cases hg
      obtain ⟨b, us, rfl, hb, rb⟩ := he.list hF
      refine op_in_seq pins s σ H x _ v u Q I rx ry ⟨b, us, rfl, .inl (.inl (.inl hb)), flat_V (hd.flat hc.1) hc.1, flat_all rb hc.2, ?_⟩
      rw [any_flat (hd.flat hc.1) hc.1 rb hc.2]
      exact q.bl_
    · obtain ⟨⟨c1, c2⟩, rfl⟩ := some_ite hg
      exact op_inD (by have := hx.room.un; omega) pins s σ H x y v u Q I rx ry ⟨d, ds, hd.dp hF c1, he.dp hF c2, c1, c2, q.bl_⟩
  · rename_i ds
    obtain ⟨hc, rfl⟩ := some_ite hg
    obtain ⟨b, us, rfl, hb, rb⟩ := he.tuple hF
    refine op_in_seq pins s σ H x _ v u Q I rx ry ⟨b, us, rfl, .inr hb, flat_V (hd.flat hc.1) hc.1, flat_all rb hc.2, ?_⟩
    rw [any_flat (hd.flat hc.1) hc.1 rb hc.2]
    exact q.bl_
  · cases hg
theorem od_notin (hx : XO X k) : OpD X (compareOp .NotIn) (inD true) := by
  intro pins s σ H x y v u Q I rx ry ⟨F, d, e, r, ⟨hz0, hF⟩, hd, he, hg, q⟩
  unfold inD at hg
  split at hg
  · rename_i ds
    split at hg
    · rename_i hc
      cases hg
      obtain ⟨b, us, rfl, hb, rb⟩ := he.list hF
      refine op_notIn_seq pins s σ H x _ v u Q I rx ry ⟨b, us, rfl, .inl (.inl (.inl hb)), flat_V (hd.flat hc.1) hc.1, flat_all rb hc.2, ?_⟩
      rw [any_flat (hd.flat hc.1) hc.1 rb hc.2]
      exact q.bl_
    · obtain ⟨⟨c1, c2⟩, rfl⟩ := some_ite hg
      exact op_notInD (by have := hx.room.un; omega) pins s σ H x y v u Q I rx ry ⟨d, ds, hd.dp hF c1, he.dp hF c2, c1, c2, q.bl_⟩
  · rename_i ds
    obtain ⟨hc, rfl⟩ := some_ite hg
    obtain ⟨b, us, rfl, hb, rb⟩ := he.tuple hF
    refine op_notIn_seq pins s σ H x _ v u Q I rx ry ⟨b, us, rfl, .inr hb, flat_V (hd.flat hc.1) hc.1, flat_all rb hc.2, ?_⟩
    rw [any_flat (hd.flat hc.1) hc.1 rb hc.2]
    exact q.bl_
  · cases hg
def isNone : D → Bool
  | .none => true
  | _ => false
theorem RdD.isNone {K : Fg} {F H : Hp} {d : D} {v : V} (h : RdD K H F d v) (e : Le F H) : decide (v = .non) = Dk.isNone d := by
  cases d with
  | none => rw [h.none_]; rfl
  | bool b => rw [h.bool]; rfl
  | int i => rw [h.int]; rfl
  | str x => rw [h.str]; rfl
  | list ds => obtain ⟨a, vs, rfl, _⟩ := h.list e; rfl
  | tuple ds => obtain ⟨a, vs, rfl, _⟩ := h.tuple e; rfl
  | dict ds => obtain ⟨a, rfl, _⟩ := h.dict e; rfl
def isD (neg : Bool) (d : D) : D → Option Rs
  | .none => some (bl (if neg then !isNone d else isNone d))
  | _ => none
theorem od_is : OpD X (compareOp .Is) (isD false) := by
  intro pins s σ H x y v u Q I rx ry ⟨F, d, e, r, ⟨hz0, hF⟩, hd, he, hg, q⟩
  unfold isD at hg
  split at hg
  · cases hg
    exact op_isN pins s σ H x y v u Q I rx ry ⟨he.none_, by rw [hd.isNone hF]; exact q.bl_⟩
  · cases hg
def ixD : D → D → Option Rs
  | .list ds, .int i => (atI ds i).map .val
  | .tuple ds, .int i => (atI ds i).map .val
  | _, _ => none
theorem DRs.atI {K : Fg} {F : Hp} {ds : List D} {vs : List V} {i : Int} {d : D} (h : DRs K F ds vs) (e : L2.atI ds i = some d) : ∃ v, L2.atI vs i = some v ∧ DR K F d v := by
  unfold L2.atI at e ⊢
  rw [h.len]
  obtain ⟨j, e1, e2⟩ := Option.bind_eq_some_iff.mp e
  obtain ⟨v, e3, e4⟩ := h.get e2
  exact ⟨v, by rw [e1]; exact e3, e4⟩
theorem ix_d : IxR X fun x y H Q => ∃ F d e r, (Szs H ∧ Le F H) ∧ RdD X.K H F d x ∧ RdD X.K H F e y ∧ ixD d e = some r ∧ Gives X.K F H r Q := by
  intro value slice pins s σ H x y v u Q I rx ry ⟨F, d, e, r, ⟨hz0, hF⟩, hd, he, hg, q⟩ hsub
  unfold ixD at hg
  split at hg
  · obtain ⟨z, e1, rfl⟩ := Option.map_eq_some_iff.mp hg
    obtain ⟨a, vs, rfl, ha, ra⟩ := hd.list hF
    obtain ⟨w, e2, e3⟩ := ra.atI e1
    exact ix_list value slice pins s σ H _ y v u Q I rx ry ⟨a, vs, _, w, rfl, he.int, .inl (.inl ha), e2, q.1 _ e3⟩ hsub
  · obtain ⟨z, e1, rfl⟩ := Option.map_eq_some_iff.mp hg
    obtain ⟨a, vs, rfl, ha, ra⟩ := hd.tuple hF
    obtain ⟨w, e2, e3⟩ := ra.atI e1
    exact ix_tup value slice pins s σ H _ y v u Q I rx ry ⟨a, vs, _, w, rfl, he.int, ha, e2, q.1 _ e3⟩ hsub
  · cases hg
variable {e a b : Expr} {es : List Expr} {pos : Pos} {t ta tb : (OW S)}
theorem ce_sub (ha : CO (S := S) X a ta) (hb : CO (S := S) X b tb) (hs : PlainIx b := by exact fun _ _ => rfl) : CE (S := S) X (.Subscript a b pos) (dBin ixD ta tb) := ce_ix ix_d ha hb hs
def cutD (ds : List D) (lo hi : Option Int) : List D := (ds.drop (HT.sIx ds.length 0 lo)).take (HT.sIx ds.length ds.length hi - HT.sIx ds.length 0 lo)
theorem DRs.cut {K : Fg} {F : Hp} {ds : List D} {vs : List V} (h : DRs K F ds vs) (lo hi : Option Int) : DRs K F (cutD ds lo hi) (cutV vs lo hi) := by
  unfold cutD cutV
  rw [h.len]
  exact (h.drop _).take _
def slD (d : D) (lo hi : Option Int) : Option Rs := match d with
  | .list ds => some (.own (cutD ds lo hi))
  | .tuple ds => some (.val (.tuple (cutD ds lo hi)))
  | _ => none
theorem sl_d : SlR X fun x lo hi H Q => ∃ F d r, (Szs H ∧ Le F H) ∧ RdD X.K H F d x ∧ slD d lo hi = some r ∧ Gives X.K F H r Q := by
  intro pins s σ H x v vl vu lo hi sl Q I rx hs pl pu ⟨F, d, r, ⟨hz0, hF⟩, hd, hg, q⟩
  unfold slD at hg
  split at hg
  · cases hg
    obtain ⟨a, vs, rfl, ha, ra⟩ := hd.list hF
    exact sl_list pins s σ H _ v vl vu lo hi sl Q I rx hs pl pu ⟨a, vs, rfl, .inl (.inl ha), fun p hp => q _ p (ra.cut lo hi) (Nat.le_trans (cutV_length _ _ _) (hz0.l ha)) hp⟩
  · cases hg
    obtain ⟨a, vs, rfl, ha, ra⟩ := hd.tuple hF
    refine sl_tupC pins s σ H _ v vl vu lo hi sl Q I rx hs pl pu ⟨a, vs, rfl, ha, fun w => ?_, q.2.1 _ _ rfl (ra.cut lo hi) (Nat.le_trans (cutV_length _ _ _) (hz0.t ha))⟩
    refine q.1 _ ?_
    rename_i ds
    have e : cutD ds lo hi = ds := by
      unfold cutD
      rw [ra.len] at w
      rw [w.1, w.2]
      simp
    rw [e]
    rcases hd with hd | ⟨_, _, _, h, _⟩
    · exact hd
    · cases h
  · cases hg
abbrev PW_ (S : Type := Option Pen) := (En S) → (Option Int → (En S) → Prop) → Prop
def liftP (K : Fg) (t : (PW_ S)) : L2.TO := fun σ H Q => ∃ B pa τ F ρ θ P, Rel K B pa (σ ++ τ) H F (ρ.sl ++ θ) ρ.pn ∧ ρ.sl.length = σ.length ∧ t ρ P ∧
  ∀ o ρ' H' F', P o ρ' → ρ'.sl.length = σ.length → Rel K B pa (σ ++ τ) H' F' (ρ'.sl ++ θ) ρ'.pn → Q o H'
abbrev CP (X : Cx) (e : Option Expr) (t : (PW_ S)) : Prop := PO X e (liftP X.K t)
def pNone : (PW_ S) := fun ρ P => P none ρ
def D.int? : D → Option Int
  | .int i => some i
  | _ => none
@[simp] theorem D.int?_int (i : Int) : D.int? (.int i) = some i := rfl
theorem D.int?_some {d : D} {i : Int} (h : D.int? d = some i) : d = .int i := by cases d <;> cases h <;> rfl
def pSome (t : (OW S)) : (PW_ S) := fun ρ P => t ρ fun k ρ1 => gets ((k.rd ρ1).bind D.int?) fun i => P (some i) ρ1
theorem po_mono {o : Option Expr} {t u : L2.TO} (h : PO X o t) (m : ∀ σ H Q, u σ H Q → t σ H Q) : PO X o u := ⟨fun pins s σ H Q I q => h.run pins s σ H Q I (m σ H Q q)⟩
theorem cp_none : CP (S := S) X none pNone := po_mono po_none fun σ H Q ⟨B, pa, τ, F, ρ, θ, P, R, hl, h, q⟩ => q none ρ H F h hl R
theorem cp_some (h : CO (S := S) X e t) : CP (S := S) X (some e) (pSome t) := po_mono (po_some h) fun σ H Q ⟨B, pa, τ, F, ρ, θ, P, R, hl, h, q⟩ => by
  refine ⟨B, pa, τ, F, ρ, θ, _, R, hl, h, fun k ρ' v H' F' hp hl' R' hs => ?_⟩
  obtain ⟨i, e, hp⟩ := gets_elim hp
  obtain ⟨d, e1, e2⟩ := Option.bind_eq_some_iff.mp e
  have e3 := D.int?_some e2
  subst e3
  have hτ : τ.length = θ.length := by have := R'.pop.len; simp at this; omega
  have rd := read_at (τ := τ ++ [some v]) (θ := θ ++ [k.sl]) (by rw [← List.append_assoc, ← List.append_assoc]; exact R') hl' τ.length (app_last _ _) (getN hτ.symm) hs e1
  exact ⟨i, rd.int, q (some i) ρ' H' F' hp hl' R'.pop⟩
def dSl (t : (OW S)) (lo hi : (PW_ S)) : (DW S) := fun ρ P => t ρ fun k ρ1 => lo ρ1 fun l ρ2 => hi ρ2 fun h ρ3 => gets (k.rd ρ3) fun d => gets (slD d l h) fun r => P r ρ3
theorem ce_slice {lo hi : Option Expr} {tl th : (PW_ S)} {p2 : Pos} (he : CO (S := S) X e t) (hl : CP (S := S) X lo tl) (hh : CP (S := S) X hi th) : CE (S := S) X (.Subscript e (.Slice lo hi none p2) pos) (dSl t tl th) := pe_mono (pe_slice sl_d he hl hh) fun σ H Q h => by
  obtain ⟨B, pa, τ, F, ρ, θ, P, R, hl, h, q⟩ := toE h
  refine ⟨B, pa, τ, F, ρ, θ, _, R, hl, h, fun k1 ρ1 v1 H1 F1 h1 hl1 R1 s1 => ?_⟩
  refine ⟨B, pa, τ ++ [some v1], F1, ρ1, θ ++ [k1.sl], _, by simpa only [List.append_assoc] using R1, hl1, h1, fun l ρ2 H2 F2 h2 hl2 R2 => ?_⟩
  refine ⟨B, pa, τ ++ [some v1], F2, ρ2, θ ++ [k1.sl], _, R2, hl2, h2, fun u ρ3 H3 F3 h3 hl3 R3 => ?_⟩
  obtain ⟨d, e1, h3⟩ := gets_elim h3
  obtain ⟨r, e2, h3⟩ := gets_elim h3
  have R4 : Rel X.K B pa (σ ++ τ ++ [some v1]) H3 F3 (ρ3.sl ++ θ ++ [k1.sl]) ρ3.pn := by simpa only [List.append_assoc] using R3
  have hτ : τ.length = θ.length := by have := R4.pop.len; simp at this; omega
  exact ⟨F3, d, r, ⟨R3.sz, R3.fh⟩, read_at R3 hl3 τ.length (app_last _ _) (getN hτ.symm) s1 e1, e2, R4.pop.gives fun v H' F' R' => q _ _ v H' F' h3 hl3 R'⟩
end
end Dk
namespace Dk
open PySem PySem.Spec PyProof.Rows L2
variable {S : Type} [StK S]
theorem b_len : bootBuiltins "len" = some (.builtin "len") := by decide +kernel
theorem b_list : bootBuiltins "list" = some (.type "list") := by decide +kernel
theorem b_tuple : bootBuiltins "tuple" = some (.type "tuple") := by decide +kernel
theorem b_int : bootBuiltins "int" = some (.type "int") := by decide +kernel
theorem b_sorted : bootBuiltins "sorted" = some (.builtin "sorted") := by decide +kernel
theorem b_isinstance : bootBuiltins "isinstance" = some (.builtin "isinstance") := by decide +kernel
theorem b_repr : bootBuiltins "repr" = some (.builtin "repr") := by decide +kernel
def ints? : List D → Option (List Int)
  | [] => some []
  | .int i :: r => (ints? r).map (i :: ·)
  | _ :: _ => none
theorem ints?_eq : ∀ {ds : List D} {ns : List Int}, ints? ds = some ns → ds = ns.map .int
  | [], ns, h => by cases h; rfl
  | .int i :: r, ns, h => by
    obtain ⟨ms, e1, rfl⟩ := Option.map_eq_some_iff.mp h
    rw [ints?_eq e1]
    rfl
  | .none :: _, ns, h => by cases h
  | .bool _ :: _, ns, h => by cases h
  | .str _ :: _, ns, h => by cases h
  | .list _ :: _, ns, h => by cases h
  | .tuple _ :: _, ns, h => by cases h
  | .dict _ :: _, ns, h => by cases h
@[simp] theorem ints?_map : ∀ ns : List Int, ints? (ns.map .int) = some ns
  | [] => rfl
  | n :: ns => by
    show (ints? (ns.map .int)).map (n :: ·) = _
    rw [ints?_map ns]
    rfl
def bls? : List D → Option (List Bool)
  | [] => some []
  | .bool i :: r => (bls? r).map (i :: ·)
  | _ :: _ => none
@[simp] theorem bls?_map : ∀ ns : List Bool, bls? (ns.map .bool) = some ns
  | [] => rfl
  | n :: ns => by
    show (bls? (ns.map .bool)).map (n :: ·) = _
    rw [bls?_map ns]
    rfl
section
variable {X : Cx} {k : Nat}
def lenD : List D → Option Rs
  | [.list ds] => some (ri ds.length)
  | [.tuple ds] => some (ri ds.length)
  | [.str x] => if x.length ≤ sizeLine then some (ri x.length) else none
  | _ => none
theorem cd_len : CallD X (.builtin "len") lenD := by
  intro pins s σ H xs us Q I rv ⟨F, ds, r, ⟨hz0, hF⟩, hd, hg, q⟩
  unfold lenD at hg
  split at hg
  · cases hg
    obtain ⟨v, rfl, h⟩ := hd.one
    obtain ⟨a, vs, rfl, ha, ra⟩ := h.list hF
    exact call_len pins s σ H _ us Q I rv ⟨_, vs.length, rfl, .inl ⟨vs, .inl (.inl ha), rfl⟩, by rw [ra.len]; exact q.ri_⟩
  · cases hg
    obtain ⟨v, rfl, h⟩ := hd.one
    obtain ⟨a, vs, rfl, ha, ra⟩ := h.tuple hF
    exact call_len pins s σ H _ us Q I rv ⟨_, vs.length, rfl, .inr ⟨vs, ha, rfl⟩, by rw [ra.len]; exact q.ri_⟩
  · obtain ⟨hz, rfl⟩ := some_ite hg
    obtain ⟨v, rfl, h⟩ := hd.one
    exact call_len pins s σ H _ us Q I rv ⟨v, _, rfl, (by rw [h.str]; exact ⟨hz, rfl⟩ : LenV X.K v H _), q.ri_⟩
  · cases hg
def listD : List D → Option Rs
  | [.list ds] => some (.own ds)
  | [.tuple ds] => some (.own ds)
  | _ => none
theorem cd_list : CallD X (.type "list") listD := by
  intro pins s σ H xs us Q I rv ⟨F, ds, r, ⟨hz0, hF⟩, hd, hg, q⟩
  unfold listD at hg
  split at hg
  · cases hg
    obtain ⟨v, rfl, h⟩ := hd.one
    obtain ⟨a, vs, rfl, ha, ra⟩ := h.list hF
    exact call_list_of pins s σ H _ us Q I rv ⟨a, vs, rfl, .inl (.inl (.inl ha)), fun l hl => q _ l ra (hz0.l ha) hl⟩
  · cases hg
    obtain ⟨v, rfl, h⟩ := hd.one
    obtain ⟨a, vs, rfl, ha, ra⟩ := h.tuple hF
    exact call_list_of pins s σ H _ us Q I rv ⟨a, vs, rfl, .inr ha, fun l hl => q _ l ra (hz0.t ha) hl⟩
  · cases hg
def tupleD : List D → Option Rs
  | [.list ds] => some (.val (.tuple ds))
  | [.tuple ds] => some (.val (.tuple ds))
  | _ => none
theorem cd_tuple : CallD X (.type "tuple") tupleD := by
  intro pins s σ H xs us Q I rv ⟨F, ds, r, ⟨hz0, hF⟩, hd, hg, q⟩
  unfold tupleD at hg
  split at hg
  · cases hg
    obtain ⟨v, rfl, h⟩ := hd.one
    obtain ⟨a, vs, rfl, ha, ra⟩ := h.list hF
    exact call_tupC pins s σ H _ us Q I rv ⟨a, vs, rfl, .inl ⟨.inl (.inl ha), q.2.1 _ _ rfl ra (hz0.l ha)⟩⟩
  · cases hg
    obtain ⟨v, rfl, h⟩ := hd.one
    have h0 := h
    obtain ⟨a, vs, rfl, ha, ra⟩ := h.tuple hF
    refine call_tuple_of pins s σ H _ us Q I rv ⟨a, vs, rfl, .inr ⟨ha, q.1 _ ?_⟩⟩
    rcases h0 with hd | ⟨_, _, _, h, _⟩
    · exact hd
    · cases h
  · cases hg
def sumD : List D → Option Rs
  | [.list ds] => (ints? ds).map fun ns => ri ns.sum
  | [.tuple ds] => (ints? ds).map fun ns => ri ns.sum
  | _ => none
def maxI : List Int → Option Int
  | [] => none
  | n :: ns => some (ns.foldl max n)
def minI : List Int → Option Int
  | [] => none
  | n :: ns => some (ns.foldl min n)
theorem foldl_min_spec : ∀ (ns : List Int) (n : Int), (ns.foldl min n = n ∨ ns.foldl min n ∈ ns) ∧ ns.foldl min n ≤ n ∧ ∀ x ∈ ns, ns.foldl min n ≤ x
  | [], n => ⟨.inl rfl, Int.le_refl _, fun _ h => nomatch h⟩
  | m :: ns, n => by
    obtain ⟨h1, h2, h3⟩ := foldl_min_spec ns (min n m)
    rw [List.foldl_cons]
    refine ⟨?_, by omega, fun x hx => ?_⟩
    · rcases h1 with h1 | h1
      · rw [h1]
        by_cases h : n ≤ m
        · left; rw [Int.min_eq_left h]
        · right; rw [Int.min_eq_right (by omega)]; exact List.mem_cons_self
      · exact .inr (List.mem_cons_of_mem _ h1)
    · rcases List.mem_cons.mp hx with rfl | hx
      · omega
      · exact h3 x hx
theorem minI_spec {ns : List Int} {m : Int} (h : minI ns = some m) : m ∈ ns ∧ ∀ x ∈ ns, m ≤ x := by
  cases ns with
  | nil => cases h
  | cons n ns =>
    cases h
    obtain ⟨h1, h2, h3⟩ := foldl_min_spec ns n
    refine ⟨?_, fun x hx => ?_⟩
    · rcases h1 with h1 | h1
      · rw [h1]; exact List.mem_cons_self
      · exact List.mem_cons_of_mem _ h1
    · rcases List.mem_cons.mp hx with rfl | hx
      · exact h2
      · exact h3 x hx
def maxD : List D → Option Rs
  | [.list ds] => (ints? ds).bind fun ns => (maxI ns).map ri
  | [.int i, .int j] => some (ri (max i j))
  | _ => none
def minD : List D → Option Rs
  | [.list ds] => (ints? ds).bind fun ns => (minI ns).map ri
  | [.int i, .int j] => some (ri (min i j))
  | _ => none
def allD : List D → Option Rs
  | [.list ds] => (bls? ds).map fun bs => bl (bs.all id)
  | _ => none
def intD : List D → Option Rs
  | [.int i] => some (ri i)
  | [.bool b] => some (ri (if b then 1 else 0))
  | _ => none
theorem cd_int : CallD X (.type "int") intD := by
  intro pins s σ H xs us Q I rv ⟨F, ds, r, ⟨hz0, hF⟩, hd, hg, q⟩
  unfold intD at hg
  split at hg
  · cases hg
    obtain ⟨v, rfl, h⟩ := hd.one
    exact call_int1 pins s σ H _ us Q I rv (.inl ⟨_, by rw [h.int], q.ri_⟩)
  · cases hg
    obtain ⟨v, rfl, h⟩ := hd.one
    exact call_int1 pins s σ H _ us Q I rv (.inr ⟨_, by rw [h.bool], q.ri_⟩)
  · cases hg
def absD : List D → Option Rs
  | [.int i] => some (ri (if i < 0 then -i else i))
  | _ => none
end
end Dk
namespace Dk
open PySem PySem.Spec PyProof.Rows L2
variable {S : Type} [StK S]
def tyName : D → String
  | .none => "NoneType"
  | .bool _ => "bool"
  | .int _ => "int"
  | .str _ => "str"
  | .list _ => "list"
  | .tuple _ => "tuple"
  | .dict _ => "dict"
inductive Ty where
  | int | bool | str | tuple | list | dict
def Ty.nm : Ty → String
  | .int => "int"
  | .bool => "bool"
  | .str => "str"
  | .tuple => "tuple"
  | .list => "list"
  | .dict => "dict"
def isi : Ty → D → Bool
  | .int, .int _ => true
  | .int, .bool _ => true
  | .bool, .bool _ => true
  | .str, .str _ => true
  | .tuple, .tuple _ => true
  | .list, .list _ => true
  | .dict, .dict _ => true
  | _, _ => false
theorem kit_isi (T : Ty) (d : D) : kitB (tyName d) T.nm = some (isi T d) := by
  have h1 : ∀ n : String, tyName d = n → kitB n T.nm = some (isi T d) → kitB (tyName d) T.nm = some (isi T d) := fun n e h => by rw [e]; exact h
  cases d with
  | none => exact h1 "NoneType" rfl (by cases T <;> (show _ = some false; decide +kernel))
  | bool b => exact h1 "bool" rfl (by cases T <;> first | (show _ = some false; decide +kernel) | (show _ = some true; decide +kernel))
  | int b => exact h1 "int" rfl (by cases T <;> first | (show _ = some false; decide +kernel) | (show _ = some true; decide +kernel))
  | str b => exact h1 "str" rfl (by cases T <;> first | (show _ = some false; decide +kernel) | (show _ = some true; decide +kernel))
  | list b => exact h1 "list" rfl (by cases T <;> first | (show _ = some false; decide +kernel) | (show _ = some true; decide +kernel))
  | tuple b => exact h1 "tuple" rfl (by cases T <;> first | (show _ = some false; decide +kernel) | (show _ = some true; decide +kernel))
  | dict b => exact h1 "dict" rfl (by cases T <;> first | (show _ = some false; decide +kernel) | (show _ = some true; decide +kernel))
theorem RdD.ty {K : Fg} {F H : Hp} {d : D} {v : V} (h : RdD K H F d v) (e : Le F H) : TyX K H v (.type (tyName d)) := by
  cases d with
  | none => rw [h.none_]; exact .base .non
  | bool b => rw [h.bool]; exact .base (.bl b)
  | int i => rw [h.int]; exact .base (.int i)
  | str x => rw [h.str]; exact .base (.str x)
  | list ds => obtain ⟨a, vs, rfl, h1, _⟩ := h.list e; exact .base (.lst h1)
  | tuple ds =>
    obtain ⟨a, vs, rfl, h1, _⟩ := h.tuple e
    rcases h1 with (h1 | ⟨o, h1⟩) | ⟨o, its, n, h1, h2, _⟩
    · exact .base (.tup h1)
    · exact .fTuple h1
    · exact .kTuple h1 h2
  | dict ds => obtain ⟨a, rfl, _, h1⟩ := h.dict e; exact .base (.dK h1)
section
variable {X : Cx} {k : Nat} {e a : Expr} {pos p p2 p3 p4 : Pos} {t : (OW S)}
theorem b_ty (T : Ty) : bootBuiltins T.nm = some (.type T.nm) := by cases T <;> decide +kernel
theorem b_ty1 {T : Ty} {x : Str} (h : Str.ofString T.nm = x) : bootBuiltins x = some (.type T.nm) := by rw [← h]; exact b_ty T
def dIsi (T : Ty) (t : (OW S)) : (DW S) := dUn (fun d => some (bl (isi T d))) t
theorem ce_isi (T : Ty) {x : Str} (ha : CO (S := S) X a t) (hm : X.mg "isinstance" = none) (hT : X.mg x = none) (hx : Str.ofString T.nm = x := by rfl) (hg : Gl X "isinstance" := by rfl) (hg2 : Gl X x := by rfl) (hn : x ≠ "__name__" := by decide) (hd : (x == ("__debug__" : Str)) = false := by decide)
    (hs : starEach [a, .Name x p2] X.env = (false, eval a X.env) :: starEach [.Name x p2] X.env := by rfl) :
    CE (S := S) X (.Call (.Name "isinstance" p) [a, .Name x p2] [] pos) (dIsi T t) := by
  have h2 : PE X (.Name x p2) (tC (.ty T.nm)) := pe_bltn hg2 hT (b_ty1 hx) rfl hn hd
  refine pe_mono (pe_callB call_isi hg hm b_isinstance (pa_cons ha (pa_cons h2 pa_nil) hs) (he := hs)) fun σ H Q h => ?_
  obtain ⟨B, pa, τ, F, ρ, θ, P, R, hl, h, q⟩ := un_step h
  refine ⟨B, pa, τ, F, ρ, θ, P, R, hl, h, fun k1 ρ1 v1 H1 F1 h1 hl1 R1 s1 => ?_⟩
  obtain ⟨F2, d, r, ⟨hz0, hF⟩, hd', hr, q'⟩ := q k1 ρ1 v1 H1 F1 h1 hl1 R1 s1
  cases hr
  exact ⟨v1, .ty T.nm, _, _, _, rfl, .ty _, hd'.ty hF, kit_ty (kit_isi T d), q'.bl_⟩
def dIsi2 (T U : Ty) (t : (OW S)) : (DW S) := dUn (fun d => some (bl (isi T d || isi U d))) t
theorem ce_isi2 (T U : Ty) {x y : Str} {x1} (ha : CO (S := S) X a t) (hm : X.mg "isinstance" = none) (hT : X.mg x = none) (hU : X.mg y = none) (hx : Str.ofString T.nm = x := by rfl) (hy : Str.ofString U.nm = y := by rfl) (hg : Gl X "isinstance" := by rfl) (hg2 : Gl X x := by rfl) (hg3 : Gl X y := by rfl)
    (hn : x ≠ "__name__" := by decide) (hd : (x == ("__debug__" : Str)) = false := by decide) (hn2 : y ≠ "__name__" := by decide) (hd2 : (y == ("__debug__" : Str)) = false := by decide)
    (hs : starEach [a, .Tuple [.Name x p2, .Name y p3] x1 p4] X.env = (false, eval a X.env) :: starEach [.Tuple [.Name x p2, .Name y p3] x1 p4] X.env := by rfl) :
    CE (S := S) X (.Call (.Name "isinstance" p) [a, .Tuple [.Name x p2, .Name y p3] x1 p4] [] pos) (dIsi2 T U t) := by
  have h2 : PE X (.Name x p2) (tC (.ty T.nm)) := pe_bltn hg2 hT (b_ty1 hx) rfl hn hd
  have h3 : PE X (.Name y p3) (tC (.ty U.nm)) := pe_bltn hg3 hU (b_ty1 hy) rfl hn2 hd2
  refine pe_mono (pe_callB call_isiT hg hm b_isinstance (pa_cons ha (pa_cons (pe_tup (pa_cons h2 (pa_cons h3 pa_nil))) pa_nil) hs) (he := hs)) fun σ H Q h => ?_
  obtain ⟨B, pa, τ, F, ρ, θ, P, R, hl, h, q⟩ := toE h
  refine ⟨B, pa, τ, F, ρ, θ, _, R, hl, h, fun k1 ρ1 v1 H1 F1 h1 hl1 R1 s1 => ?_⟩
  refine ⟨by show 2 ≤ sizeLine; decide, fun tp hp => ?_⟩
  obtain ⟨d, e1, h1⟩ := gets_elim h1
  have hτ : τ.length = θ.length := by have := R1.pop.len; simp at this; omega
  have R1b : Rel X.K B pa (σ ++ τ ++ [some v1]) (upd H1 tp (.tup [.ty T.nm, .ty U.nm])) F1 (ρ1.sl ++ θ ++ [k1.sl]) ρ1.pn := R1.grow (le_upd hp) (Le.refl _) (R1.fh.trans (le_upd hp)) (fun b u e => .inl e) (R1.sz.upT (by show 2 ≤ sizeLine; decide))
  have R2 : Rel X.K B pa (σ ++ (τ ++ [some v1])) (upd H1 tp (.tup [.ty T.nm, .ty U.nm])) F1 (ρ1.sl ++ (θ ++ [k1.sl])) ρ1.pn := by simpa only [List.append_assoc] using R1b
  have rd := read_at R2 hl1 τ.length (app_last _ _) (getN hτ.symm) s1 e1
  refine ⟨v1, tp, [.ty T.nm, .ty U.nm], _, [.type T.nm, .type U.nm], isi T d || isi U d, rfl, upd_same, .cons (.ty _) (.cons (.ty _) .nil), rd.ty R1b.fh, ?_, ?_⟩
  · refine kitAny_cons (kit_ty (kit_isi T d)) (fun e => ?_) (fun e => by rw [e]; rfl)
    refine kitAny_cons (kit_ty (kit_isi U d)) (fun e2 => ?_) (fun e2 => by rw [e2]; simp)
    rw [e, e2]; exact kitAny_nil
  · exact q _ _ _ _ F1 h1 hl1 (R1b.pop.pushVal (DR.bl_.mpr rfl))
end
mutual
def noList : D → Bool
  | .list _ => false
  | .tuple ds => noLists ds
  | _ => true
def noLists : List D → Bool
  | [] => true
  | d :: ds => noList d && noLists ds
end
section
variable {X : Cx} {k : Nat} {pins : List (Addr × Obj)} {σ : L2.St} {H F : Hp} {s : Shared}
mutual
theorem DR.reads (I : L2.Inv X pins σ H s) (e : Le F H) : ∀ (d : D) (v : V) (u : Value), DR X.K F d v → RelV v u → ∃ as, Reads s.heap u d as ∧ (noList d = true → sysModules ∉ as)
  | .none, v, u, h, r => by
    rw [DR.non_.mp h] at r; cases r
    exact ⟨_, Reads.none, fun _ => by simp⟩
  | .bool b, v, u, h, r => by
    rw [DR.bl_.mp h] at r; cases r
    exact ⟨_, Reads.bool b, fun _ => by simp⟩
  | .int i, v, u, h, r => by
    rw [DR.int_.mp h] at r; obtain ⟨t, rfl⟩ := r
    exact ⟨_, Reads.int i t, fun _ => by simp⟩
  | .str x, v, u, h, r => by
    rw [DR.str_.mp h] at r; obtain ⟨t, rfl⟩ := r
    exact ⟨_, Reads.str x t, fun _ => by simp⟩
  | .list ds, v, u, h, r => by
    obtain ⟨a, vs, rfl, h1, h2⟩ := DR.list_.mp h
    cases r
    obtain ⟨its, rv, ⟨o, n, ho, hc, _, hd⟩, _⟩ := I.list (.inl (.inl (e _ _ h1)))
    obtain ⟨as, hr, _⟩ := DRs.reads I e ds vs its h2 rv
    exact ⟨_, Reads.list ho hc hd hr, fun z => by simp [noList] at z⟩
  | .tuple ds, v, u, h, r => by
    obtain ⟨a, vs, rfl, h1, h2⟩ := DR.tuple_s h
    cases r
    obtain ⟨its, rv, ⟨o, ho, hc, n, hd⟩, _⟩ := I.tuple (e.t h1)
    obtain ⟨as, hr, hs⟩ := DRs.reads I e ds vs its h2 rv
    exact ⟨_, Reads.tuple ho hc hd hr, fun z => hs (by simpa [noList] using z)⟩
  | .dict kvs, v, u, h, r => by
    obtain ⟨a, rfl, rfl, h1⟩ := DR.dict_.mp h
    cases r
    obtain ⟨_, hne, vs, kv, o, es, ep, ho, hx, hd, _, hp, _⟩ := I.hok a _ (e _ _ h1)
    cases kv
    have : es.toList = [] := by
      have := hp.length
      simpa using this
    exact ⟨[a], Reads.dict (as := []) (bs := []) ho hx.1 hd (by rw [this]; exact .nil) (by rw [this]; exact .nil), fun _ hm => by
      have e2 : sysModules = a := by simpa using hm
      rw [← e2] at hne
      exact absurd hne (by decide)⟩
theorem DRs.reads (I : L2.Inv X pins σ H s) (e : Le F H) : ∀ (ds : List D) (vs : List V) (us : List Value), DRs X.K F ds vs → Vals vs us → ∃ as, ReadsAll s.heap us ds as ∧ (noLists ds = true → sysModules ∉ as)
  | [], vs, us, h, r => by
    rw [DRs.nil_.mp h] at r
    cases r
    exact ⟨_, ReadsAll.nil, fun _ => by simp⟩
  | d :: ds, vs, us, h, r => by
    obtain ⟨v, vr, rfl, h2, h3⟩ := DRs.cons_.mp h
    cases r with
    | cons r1 r2 =>
      obtain ⟨as, q1, z1⟩ := DR.reads I e d _ _ h2 r1
      obtain ⟨bs, q2, z2⟩ := DRs.reads I e ds _ _ h3 r2
      refine ⟨_, ReadsAll.cons q1 q2, fun z => ?_⟩
      simp only [noLists, Bool.and_eq_true] at z
      intro hm
      rcases List.mem_append.mp hm with hm | hm
      · exact z1 z.1 hm
      · exact z2 z.2 hm
end
theorem RdD.reads {d : D} {v : V} {u : Value} (I : L2.Inv X pins σ H s) (e : Le F H) (h : RdD X.K H F d v) (r : RelV v u) : ∃ as, Reads s.heap u d as ∧ (noList d = true → sysModules ∉ as) := by
  rcases h with h | ⟨ds, a, vs, rfl, rfl, h1, h2⟩
  · exact h.reads I e d v u r
  · cases r
    obtain ⟨its, rv, ⟨o, n, ho, hc, _, hd⟩, _⟩ := I.list (.inl (.inl h1))
    obtain ⟨as, hr, _⟩ := h2.reads I e ds vs its rv
    exact ⟨_, Reads.list ho hc hd hr, fun z => by simp [noList] at z⟩
def reprOk (d : D) : Prop := d.showable = true ∧ d.shown.length ≤ sizeLine ∧ d.depth ≤ 100 ∧ (noList d = true ∨ d.hasDict = false)
instance {d : D} : Decidable (reprOk d) := by unfold reprOk; infer_instance
def reprD : List D → Option Rs
  | [d] => if reprOk d then some (.val (.str d.shown)) else none
  | _ => none
theorem cd_repr (hx : XO X k) : CallD X (.builtin "repr") reprD := by
  intro pins s σ H xs us Q I rv ⟨F, ds, r, ⟨hz0, hF⟩, hd, hg, q⟩
  unfold reprD at hg
  split at hg
  · obtain ⟨⟨c1, c2, c3, c4⟩, rfl⟩ := some_ite hg
    obtain ⟨v, rfl, h⟩ := hd.one
    obtain ⟨u, rfl, ru⟩ := vals1 rv
    rename_i d
    obtain ⟨as, hr, hs⟩ := h.reads I hF ru
    have hsm : d.hasDict = true → sysModules ∉ as := fun z => by
      rcases c4 with c4 | c4
      · exact hs c4
      · rw [c4] at z; cases z
    have hu : X.A.units + (d.depth + 1) < cLine := by have := hx.room.un; omega
    have fin : ∀ (h' : Heap) (u : Tok) (tk : Nat), (∀ b o, s.heap.get? b = some o → h'.get? b = some o) → EP X pins σ Q (.str d.shown u) { s with heap := h', toks := tk } := fun h' u tk hk => ⟨.str d.shown, H, I.kept (t' := tk) hk, ⟨u, rfl⟩, q.str_⟩
    cases hr with
    | none => exact P.repr_of_none (by have := fin s.heap s.toks (s.toks + 1) (fun _ _ e => e); simpa [PyData.shown] using this)
    | bool b => exact P.repr_of_bool (by have := fin s.heap s.toks (s.toks + 1) (fun _ _ e => e); cases b <;> simpa [PyData.shown] using this)
    | int i t => exact P.repr_of_int (by simpa [PyData.showable] using c1) (by have := fin s.heap s.toks (s.toks + 1) (fun _ _ e => e); simpa [PyData.shown] using this)
    | str x t => exact P.repr_of_str (by have := fin s.heap s.toks (s.toks + 1) (fun _ _ e => e); simpa [PyData.shown] using this) (by simpa [PyData.shown] using c2)
    | list h1 h2 h3 h4 => exact repr_of_reads' (.list h1 h2 h3 h4) c1 hsm hx.gd hu (fun _ _ e => e) (fun h' u tk hk => fin h' u tk hk) c2
    | tuple h1 h2 h3 h4 => exact repr_of_reads' (.tuple h1 h2 h3 h4) c1 hsm hx.gd hu (fun _ _ e => e) (fun h' u tk hk => fin h' u tk hk) c2
    | dict h1 h2 h3 h4 h5 => exact repr_of_reads' (.dict h1 h2 h3 h4 h5) c1 hsm hx.gd hu (fun _ _ e => e) (fun h' u tk hk => fin h' u tk hk) c2
  · cases hg
end
end Dk
namespace Dk
open PySem PySem.Spec PyProof.Rows L2
variable {S : Type} [StK S]
def Yl (K : Fg) (F H : Hp) (d : D) (x : V) (H' : Hp) : Prop := (H' = H ∧ DR K F d x) ∨ ∃ p ds vs o, d = .tuple ds ∧ x = .ref p ∧ H p = none ∧ H' = upd H p (.frz o (.tup vs)) ∧ DRs K F ds vs ∧ vs.length ≤ sizeLine ∧ o.dict = none
structure SrcOk (K : Fg) (F0 : Hp) (J : It) (f : List D → Option (List D)) (vs : List V) : Prop where
  step : ∀ (H F : Hp) (ds items : List D) (i : Nat) (d : D), Szs H → Le F0 F → Le F H → RdDs K H F ds vs → f ds = some items → items[i]? = some d → J.go i H ∧ ∀ x H', J.yld i H x H' → Yl K F H d x H'
  stop : ∀ (H F : Hp) (ds items : List D), Szs H → Le F0 F → Le F H → RdDs K H F ds vs → f ds = some items → J.stop items.length H ∧ items.length ≤ sizeLine
structure Sc where
  ks : List Tk
  f : List D → Option (List D)
def Sc.items (c : Sc) (ρ : En S) : Option (List D) := (rds ρ c.ks).bind c.f
abbrev IW (S : Type := Option Pen) := (En S) → (Sc → (En S) → Prop) → Prop
def liftI (K : Fg) (t : (IW S)) : TI := fun σ H R => ∃ B pa τ F ρ θ P, Rel K B pa (σ ++ τ) H F (ρ.sl ++ θ) ρ.pn ∧ ρ.sl.length = σ.length ∧ t ρ P ∧
  ∀ c ρ' vs H' F' J, P c ρ' → ρ'.sl.length = σ.length → c.ks.length = vs.length → Rel K B pa (σ ++ τ ++ vs.map some) H' F' (ρ'.sl ++ θ ++ c.ks.map Tk.sl) ρ'.pn →
    (∀ (j : Nat) i v, c.ks[j]? = some (.slot i) → vs[j]? = some v → σ[i]? = some (some v)) → SrcOk K F' J c.f vs → R J H'
abbrev CI (X : Cx) (tg e : Expr) (t : (IW S)) : Prop := PI X tg e (liftI X.K t)
theorem pi_mono {X : Cx} {tg e : Expr} {t u : TI} (h : PI X tg e t) (m : ∀ σ H Q, u σ H Q → t σ H Q) : PI X tg e u := ⟨fun pins s σ H Q I q => h.run pins s σ H Q I (m σ H Q q)⟩
section
variable {X : Cx} {tg e a b : Expr} {es : List Expr} {pos p : Pos} {t u : (OW S)}
def iSeq2 (K : Fg) (tl : TE) : TI := fun σ H R => tl σ H fun x H1 => ∃ a, x = .ref a ∧ ((∃ xs, SqL K H1 a xs ∧ R (Itl K a) H1) ∨ ∃ xs, SqT K H1 a xs ∧ R (Itt K a) H1)
theorem pi_seq2 {l : Expr} {tl : TE} (hl : PE X l tl) : PI X tg l (iSeq2 X.K tl) := by
  refine ⟨fun pins s σ H R I h => ?_⟩
  refine thn (hl.run pins s σ H _ I h) fun v s1 ⟨x, H1, I1, r1, q1⟩ => ?_
  obtain ⟨a, e, ⟨xs, hq, q⟩ | ⟨xs, hq, q⟩⟩ := q1
  · subst e
    cases r1
    obtain ⟨its, rv, p, hz⟩ := I1.list hq
    refine wpAny_pyIter_list p.isList ?_
    refine ⟨s1.heap.objs.size, [s1.heap.objs.size], _, _, H1, rfl, I1.kept (t' := s1.toks) fun b o e => Heap.get?_push_of_some _ e, turn_list a _, ⟨_, Heap.get?_push_size _ rfl, rfl, rfl⟩, fun b hb => ?_, q⟩
    have e : b = s1.heap.objs.size := by simpa using hb
    subst e
    exact I1.fpOk (Nat.le_refl _) (I1.hok.fresh (Nat.le_refl _))
  · subst e
    cases r1
    obtain ⟨its, rv, p, hz⟩ := I1.tuple hq
    refine wpAny_pyIter_tuple (show s1.heap.IsTuple a its.toArray from p) ?_
    refine ⟨s1.heap.objs.size, [s1.heap.objs.size], _, _, H1, rfl, I1.kept (t' := s1.toks) fun b o e => Heap.get?_push_of_some _ e, turn_tuple a _, ⟨_, Heap.get?_push_size _ rfl, rfl, rfl⟩, fun b hb => ?_, q⟩
    have e : b = s1.heap.objs.size := by simpa using hb
    subst e
    exact I1.fpOk (Nat.le_refl _) (I1.hok.fresh (Nat.le_refl _))
def seqF : List D → Option (List D)
  | [.list ds] => some ds
  | [.tuple ds] => some ds
  | _ => none
@[simp] theorem seqF_list {ds : List D} : seqF [.list ds] = some ds := rfl
@[simp] theorem seqF_tuple {ds : List D} : seqF [.tuple ds] = some ds := rfl
end
end Dk
namespace Dk
open PySem PySem.Spec PyProof.Rows L2
variable {S : Type} [StK S]
def listF : List D → Option (List D)
  | [.list ds] => some ds
  | _ => none
def tupF : List D → Option (List D)
  | [.tuple ds] => some ds
  | _ => none
@[simp] theorem listF_list {ds : List D} : listF [.list ds] = some ds := rfl
@[simp] theorem tupF_tuple {ds : List D} : tupF [.tuple ds] = some ds := rfl
theorem listF_some {ds es : List D} (h : listF ds = some es) : ds = [.list es] := by
  unfold listF at h
  split at h
  · cases h; rfl
  · cases h
theorem tupF_some {ds es : List D} (h : tupF ds = some es) : ds = [.tuple es] := by
  unfold tupF at h
  split at h
  · cases h; rfl
  · cases h
theorem src_l {F0 : Hp} {K : Fg} {a : Addr} : SrcOk K F0 (Itl K a) listF [.ref a] := by
  refine ⟨fun H F ds items i d hz _ hF h e hi => ?_, fun H F ds items hz _ hF h e => ?_⟩
  · have e := listF_some e
    subst e
    obtain ⟨v, hv, h⟩ := h.one
    cases hv
    obtain ⟨a', vs, hv, ha, ra⟩ := h.list hF
    cases hv
    obtain ⟨v, h1, h2⟩ := ra.get hi
    refine ⟨⟨vs, v, .inl (.inl ha), h1⟩, fun x H' ⟨e1, e2⟩ => .inl ⟨e1, ?_⟩⟩
    have := e2 vs (.inl (.inl ha))
    rw [h1] at this
    cases this
    exact h2
  · have e := listF_some e
    subst e
    obtain ⟨v, hv, h⟩ := h.one
    cases hv
    obtain ⟨a', vs, hv, ha, ra⟩ := h.list hF
    cases hv
    exact ⟨⟨vs, .inl (.inl ha), by rw [ra.len]; exact Nat.le_refl _⟩, by rw [← ra.len]; exact hz.l ha⟩
theorem src_t {F0 : Hp} {K : Fg} {a : Addr} : SrcOk K F0 (Itt K a) tupF [.ref a] := by
  refine ⟨fun H F ds items i d hz _ hF h e hi => ?_, fun H F ds items hz _ hF h e => ?_⟩
  · have e := tupF_some e
    subst e
    obtain ⟨v, hv, h⟩ := h.one
    cases hv
    obtain ⟨a', vs, hv, ha, ra⟩ := h.tuple hF
    cases hv
    obtain ⟨v, h1, h2⟩ := ra.get hi
    refine ⟨⟨vs, v, ha, h1⟩, fun x H' ⟨e1, e2⟩ => .inl ⟨e1, ?_⟩⟩
    have := e2 vs ha
    rw [h1] at this
    cases this
    exact h2
  · have e := tupF_some e
    subst e
    obtain ⟨v, hv, h⟩ := h.one
    cases hv
    obtain ⟨a', vs, hv, ha, ra⟩ := h.tuple hF
    cases hv
    exact ⟨⟨vs, ha, by rw [ra.len]; exact Nat.le_refl _⟩, by rw [← ra.len]; exact hz.t ha⟩
section
variable {X : Cx} {tg e a b : Expr} {es : List Expr} {pos p : Pos} {t u : (OW S)} {k : Nat}
def iSeq (t : (OW S)) : (IW S) := fun ρ P => t ρ fun k ρ1 => gets (k.rd ρ1) fun d => match d with
  | .list _ => P ⟨[k], listF⟩ ρ1
  | .tuple _ => P ⟨[k], tupF⟩ ρ1
  | _ => False
theorem ci_seq (h : CO (S := S) X e t) : CI (S := S) X tg e (iSeq t) := pi_mono (pi_seq2 h) fun σ H R ⟨B, pa, τ, F, ρ, θ, P, Rl, hl, h, q⟩ => by
  refine ⟨B, pa, τ, F, ρ, θ, _, Rl, hl, h, fun k ρ1 v H1 F1 h1 hl1 R1 s1 => ?_⟩
  obtain ⟨d, e1, h1⟩ := gets_elim h1
  have hτ : τ.length = θ.length := by have := R1.pop.len; simp at this; omega
  have R2 : Rel X.K B pa (σ ++ (τ ++ [some v])) H1 F1 (ρ1.sl ++ (θ ++ [k.sl])) ρ1.pn := by simpa only [List.append_assoc] using R1
  have rd := read_at R2 hl1 τ.length (app_last _ _) (getN hτ.symm) s1 e1
  have sl : ∀ (j : Nat) i v', [k][j]? = some (.slot i) → [v][j]? = some v' → σ[i]? = some (some v') := fun j i v' e2 e3 => by
    cases j with
    | zero => simp at e2 e3; subst e3; exact s1 i e2
    | succ j => simp at e2
  cases d with
  | list ds =>
    obtain ⟨a, vs, rfl, ha, _⟩ := rd.list R1.fh
    exact ⟨a, rfl, .inl ⟨vs, .inl (.inl ha), q _ ρ1 [.ref a] H1 F1 _ h1 hl1 rfl (by simpa using R1) sl src_l⟩⟩
  | tuple ds =>
    obtain ⟨a, vs, rfl, ha, _⟩ := rd.tuple R1.fh
    exact ⟨a, rfl, .inr ⟨vs, ha, q _ ρ1 [.ref a] H1 F1 _ h1 hl1 rfl (by simpa using R1) sl src_t⟩⟩
  | _ => exact h1.elim
def rangeD (lo : Int) (n : Nat) : List D := (List.range n).map fun i => .int (lo + (i : Nat))
theorem rangeD_get {lo : Int} {n i : Nat} {d : D} (h : (rangeD lo n)[i]? = some d) : i < n ∧ d = .int (lo + i) := by
  unfold rangeD at h
  rw [List.getElem?_map] at h
  obtain ⟨j, h1, h2⟩ := Option.map_eq_some_iff.mp h
  obtain ⟨h3, h4⟩ := List.getElem?_eq_some_iff.mp h1
  simp at h3 h4
  subst h4
  exact ⟨h3, h2.symm⟩
@[simp] theorem rangeD_len {lo : Int} {n : Nat} : (rangeD lo n).length = n := by simp [rangeD]
theorem src_r {F0 : Hp} {K : Fg} {lo : Int} {n : Nat} (hn : n ≤ sizeLine) : SrcOk K F0 (Itr lo n) (fun _ => some (rangeD lo n)) [] := by
  refine ⟨fun H F ds items i d hz _ hF h e hi => ?_, fun H F ds items hz _ hF h e => ?_⟩
  · cases e
    obtain ⟨h1, h2⟩ := rangeD_get hi
    exact ⟨h1, fun x H' ⟨e1, e2⟩ => .inl ⟨e1, by rw [h2, e2]; exact DR.int_.mpr rfl⟩⟩
  · cases e
    rw [rangeD_len]
    exact ⟨Nat.le_refl _, hn⟩
def iRange1 (t : (OW S)) : (IW S) := fun ρ P => t ρ fun k ρ1 => gets ((k.rd ρ1).bind D.int?) fun j => (-(2 ^ 62) ≤ j ∧ j ≤ 16777216) ∧ P ⟨[], fun _ => some (rangeD 0 j.toNat)⟩ ρ1
def iRange2 (t u : (OW S)) : (IW S) := fun ρ P => t ρ fun k ρ1 => u ρ1 fun k2 ρ2 => gets ((k.rd ρ2).bind D.int?) fun i => gets ((k2.rd ρ2).bind D.int?) fun j => (-(2 ^ 62) ≤ i ∧ i < 2 ^ 62 ∧ -(2 ^ 62) ≤ j ∧ j < 2 ^ 62 ∧ j - i ≤ 16777216) ∧ P ⟨[], fun _ => some (rangeD i (j - i).toNat)⟩ ρ2
theorem ci_range1 (hm : X.mg "range" = none) (h : CO (S := S) X a t) (hg : Gl X "range" := by rfl) (hs : starEach [a] X.env = (false, eval a X.env) :: starEach [] X.env := by rfl) : CI (S := S) X tg (.Call (.Name "range" p) [a] [] pos) (iRange1 t) :=
  pi_mono (pi_range1 hg hm (pa_cons h pa_nil hs) hs) fun σ H R ⟨B, pa, τ, F, ρ, θ, P, Rl, hl, h, q⟩ => by
    refine ⟨B, pa, τ, F, ρ, θ, _, Rl, hl, h, fun k ρ1 v H1 F1 h1 hl1 R1 s1 => ?_⟩
    obtain ⟨j, e, ⟨b1, b2⟩, h1⟩ := gets_elim h1
    obtain ⟨d, e1, e2⟩ := Option.bind_eq_some_iff.mp e
    have e3 := D.int?_some e2
    subst e3
    have hτ : τ.length = θ.length := by have := R1.pop.len; simp at this; omega
    have R2 : Rel X.K B pa (σ ++ (τ ++ [some v])) H1 F1 (ρ1.sl ++ (θ ++ [k.sl])) ρ1.pn := by simpa only [List.append_assoc] using R1
    have rd := read_at R2 hl1 τ.length (app_last _ _) (getN hτ.symm) s1 e1
    have hsz : sizeLine = 16777216 := sizeLine_eq
    exact ⟨j, by rw [rd.int], b1, by omega, q _ ρ1 [] H1 F1 _ h1 hl1 rfl (by simpa using R1.pop) (fun j i v e => by simp at e) (src_r (by omega))⟩
theorem ci_range2 (hm : X.mg "range" = none) (ha : CO (S := S) X a t) (hb : CO (S := S) X b u) (hg : Gl X "range" := by rfl) (hs : starEach [a, b] X.env = (false, eval a X.env) :: starEach [b] X.env := by rfl) (hs2 : starEach [b] X.env = (false, eval b X.env) :: starEach [] X.env := by rfl)
    (hs3 : starEach [a, b] X.env = [(false, eval a X.env), (false, eval b X.env)] := by rfl) : CI (S := S) X tg (.Call (.Name "range" p) [a, b] [] pos) (iRange2 t u) :=
  pi_mono (pi_range2 hg hm (pa_cons ha (pa_cons hb pa_nil hs2) hs) hs3 hs2) fun σ H R ⟨B, pa, τ, F, ρ, θ, P, Rl, hl, h, q⟩ => by
    refine ⟨B, pa, τ, F, ρ, θ, _, Rl, hl, h, fun k ρ1 v H1 F1 h1 hl1 R1 s1 => ?_⟩
    refine ⟨B, pa, τ ++ [some v], F1, ρ1, θ ++ [k.sl], _, by simpa only [List.append_assoc] using R1, hl1, h1, fun k2 ρ2 v2 H2 F2 h2 hl2 R2 s2 => ?_⟩
    obtain ⟨i, e, h2⟩ := gets_elim h2
    obtain ⟨j, f, ⟨b1, b2, b3, b4, b5⟩, h2⟩ := gets_elim h2
    obtain ⟨d, e1, e2⟩ := Option.bind_eq_some_iff.mp e
    obtain ⟨d', f1, f2⟩ := Option.bind_eq_some_iff.mp f
    have e3 := D.int?_some e2
    have f3 := D.int?_some f2
    subst e3 f3
    have R3 : Rel X.K B pa (σ ++ τ ++ [some v] ++ [some v2]) H2 F2 (ρ2.sl ++ θ ++ [k.sl] ++ [k2.sl]) ρ2.pn := by simpa only [List.append_assoc] using R2
    have hτ : τ.length = θ.length := by have := R3.pop.pop.len; simp at this; omega
    have R4 : Rel X.K B pa (σ ++ (τ ++ [some v] ++ [some v2])) H2 F2 (ρ2.sl ++ (θ ++ [k.sl] ++ [k2.sl])) ρ2.pn := by simpa only [List.append_assoc] using R2
    have rd := read_at R4 hl2 τ.length (app_get (app_last _ _)) (app_get (getN hτ.symm)) s1 e1
    have rd2 := read_at R4 hl2 (τ ++ [some v]).length (app_last _ _) (getN (by simp [hτ])) s2 f1
    have hsz : sizeLine = 16777216 := sizeLine_eq
    exact ⟨i, j, by rw [rd.int, rd2.int], ⟨b1, b2, b3, b4⟩, q _ ρ2 [] H2 F2 _ h2 hl2 rfl (by simpa using R3.pop.pop) (fun j i v e => by simp at e) (src_r (by omega))⟩
end
section
variable {K : Fg} {B : Bs} {pa : Option Addr} {zs zs' : List (Option V)} {H F : Hp} {ws ws' : List Sl} {pn : S}
theorem Rel.sub (R : Rel K B pa zs H F ws pn) (f : Nat → Nat) (hl : zs'.length = ws'.length) (hf : ∀ i j, f i = f j → i = j) (h : ∀ (i : Nat) s, ws'[i]? = some s → ws[f i]? = some s ∧ zs'[i]? = zs[f i]?) : Rel K B pa zs' H F ws' pn := by
  obtain ⟨T, t⟩ := R.st
  refine ⟨hl, R.fh, R.base, R.f0, R.fr, fun i s e => ?_, fun i j xs ys a e1 e2 e3 e4 => ?_, ⟨T, t.r, t.hn, t.fn, t.bs, fun i xs a e1 e2 => ?_⟩, R.pal, R.sz, R.tg⟩
  · obtain ⟨h1, h2⟩ := h i s e
    obtain ⟨o, q1, q2⟩ := R.sl _ s h1
    exact ⟨o, by rw [h2]; exact q1, q2⟩
  · obtain ⟨h1, h2⟩ := h i _ e1
    obtain ⟨g1, g2⟩ := h j _ e2
    exact hf i j (R.inj _ _ xs ys a h1 g1 (by rw [← h2]; exact e3) (by rw [← g2]; exact e4))
  · obtain ⟨h1, h2⟩ := h i _ e1
    exact t.ap _ xs a h1 (by rw [← h2]; exact e2)
theorem Rel.patch (R : Rel K B pa zs H F ws pn) (hl : zs'.length = ws'.length) (h : ∀ (i : Nat) s, ws'[i]? = some s → (ws[i]? = some s ∧ zs'[i]? = zs[i]?) ∨ ((∃ o, zs'[i]? = some o ∧ SlotR K B pa H F s o) ∧ ∀ xs, s ≠ .own xs)) : Rel K B pa zs' H F ws' pn := by
  obtain ⟨T, t⟩ := R.st
  refine ⟨hl, R.fh, R.base, R.f0, R.fr, fun i s e => ?_, fun i j xs ys a e1 e2 e3 e4 => ?_, ⟨T, t.r, t.hn, t.fn, t.bs, fun i xs a e1 e2 => (h i _ e1).elim (fun q => t.ap i xs a q.1 (by rw [← q.2]; exact e2)) fun q => absurd rfl (q.2 _)⟩, R.pal, R.sz, R.tg⟩
  · rcases h i s e with ⟨h1, h2⟩ | ⟨h1, _⟩
    · obtain ⟨o, q1, q2⟩ := R.sl _ s h1
      exact ⟨o, by rw [h2]; exact q1, q2⟩
    · exact h1
  · rcases h i _ e1 with ⟨h1, h2⟩ | ⟨_, h1⟩
    · rcases h j _ e2 with ⟨g1, g2⟩ | ⟨_, g1⟩
      · exact R.inj _ _ xs ys a h1 g1 (by rw [← h2]; exact e3) (by rw [← g2]; exact e4)
      · exact absurd rfl (g1 _)
    · exact absurd rfl (h1 _)
theorem Rel.dropMid {os : List (Option V)} {ss : List Sl} {o : Option V} {s : Sl} (R : Rel K B pa (zs ++ os ++ [o]) H F (ws ++ ss ++ [s]) pn) (h0 : zs.length = ws.length) (h1 : os.length = ss.length) : Rel K B pa (zs ++ [o]) H F (ws ++ [s]) pn := by
  refine R.sub (fun i => if i < ws.length then i else i + ss.length) (by simp [h0]) (fun i j e => ?_) (fun i t e => ?_)
  · split at e <;> split at e <;> omega
  · rcases get_app e with e | ⟨rfl, rfl⟩
    · have hi := (List.getElem?_eq_some_iff.mp e).1
      rw [if_pos hi]
      rw [List.append_assoc, List.append_assoc, List.getElem?_append_left hi, List.getElem?_append_left (by omega), List.getElem?_append_left (by omega)]
      exact ⟨e, rfl⟩
    · rw [if_neg (Nat.lt_irrefl _)]
      have e1 : ws.length + ss.length = (ws ++ ss).length := by simp
      have e2 : ws.length + ss.length = (zs ++ os).length := by simp [h0, h1]
      refine ⟨by rw [e1]; exact app_last _ _, ?_⟩
      rw [e2, app_last, ← h0, app_last]
theorem Rel.setVal {d : D} {v : V} {i : Nat} (R : Rel K B pa zs H F ws pn) (h : DR K F d v) (hi : i < zs.length) : Rel K B pa (zs.set i (some v)) H F (ws.set i (.val d)) pn := (R.pushVal h).move hi
theorem Rel.yl {d : D} {x : V} {H' : Hp} (R : Rel K B pa zs H F ws pn) (h : Yl K F H d x H') : ∃ F', Le F F' ∧ Rel K B pa zs H' F' ws pn ∧ DR K F' d x := by
  rcases h with ⟨rfl, h⟩ | ⟨p, ds, vs, o, rfl, rfl, hp, rfl, h, hz, ho⟩
  · exact ⟨F, Le.refl _, R, h⟩
  · have R1 := R.pushTup hp h hz ho
    obtain ⟨n1, _, _⟩ := R.hnone hp
    exact ⟨_, le_upd n1, R1.pop, DR.tupC_.mpr ⟨p, vs, rfl, .inl ⟨o, upd_same, ho⟩, h.mono (le_upd n1)⟩⟩
end
abbrev GW (S : Type := Option Pen) := D → (En S) → ((En S) → Prop) → Prop
abbrev GWs (S : Type := Option Pen) := List D → (En S) → ((En S) → Prop) → Prop
def liftG (K : Fg) (is : List Nat) (g : (GW S)) : TG := fun v σ H Q => ∃ B pa τ F ρ θ P d, Rel K B pa (σ ++ τ) H F (ρ.sl ++ θ) ρ.pn ∧ ρ.sl.length = σ.length ∧ DR K F d v ∧ g d ρ P ∧
  ∀ ρ' σ', P ρ' → σ'.length = σ.length → ρ'.sl.length = σ.length → (∀ js, (∀ i ∈ is, i ∈ js) → wipe σ' js = wipe σ js) → Rel K B pa (σ' ++ τ) H F (ρ'.sl ++ θ) ρ'.pn → Q σ' H
def liftGs (K : Fg) (is : List Nat) (g : (GWs S)) : TGs := fun vs σ H Q => ∃ B pa τ F ρ θ P ds, Rel K B pa (σ ++ τ) H F (ρ.sl ++ θ) ρ.pn ∧ ρ.sl.length = σ.length ∧ DRs K F ds vs ∧ g ds ρ P ∧
  ∀ ρ' σ', P ρ' → σ'.length = σ.length → ρ'.sl.length = σ.length → (∀ js, (∀ i ∈ is, i ∈ js) → wipe σ' js = wipe σ js) → Rel K B pa (σ' ++ τ) H F (ρ'.sl ++ θ) ρ'.pn → Q σ' H
abbrev CG (X : Cx) (tg : Expr) (is : List Nat) (g : (GW S)) : Prop := PG X tg (liftG X.K is g)
abbrev CGs (X : Cx) (tg : List Expr) (is : List Nat) (g : (GWs S)) : Prop := PGs X tg (liftGs X.K is g)
theorem pg_mono {X : Cx} {e : Expr} {t u : TG} (h : PG X e t) (m : ∀ v σ H Q, u v σ H Q → t v σ H Q) : PG X e u := ⟨fun pins s σ H v u' Q I r q => h.run pins s σ H v u' Q I r (m v σ H Q q)⟩
theorem pgs_mono {X : Cx} {e : List Expr} {t u : TGs} (h : PGs X e t) (m : ∀ v σ H Q, u v σ H Q → t v σ H Q) : PGs X e u := ⟨fun pins s σ H v u' Q I r q => h.run pins s σ H v u' Q I r (m v σ H Q q)⟩
theorem wipe_get {σ : L2.St} {i : Nat} : ∀ {vs : List Nat}, (wipe σ vs)[i]? = if i ∈ vs then (if i < σ.length then some none else none) else σ[i]?
  | [] => by simp [wipe]
  | v :: vs => by
    unfold wipe
    by_cases h : v = i
    · subst h
      rw [List.getElem?_set_self', if_pos List.mem_cons_self]
      have := wipe_length σ vs
      by_cases hi : v < σ.length
      · rw [if_pos hi, List.getElem?_eq_getElem (by omega)]; rfl
      · rw [if_neg hi, List.getElem?_eq_none (by omega)]; rfl
    · rw [List.getElem?_set_ne h, wipe_get]
      by_cases h2 : i ∈ vs
      · rw [if_pos h2, if_pos (List.mem_cons_of_mem _ h2)]
      · rw [if_neg h2, if_neg (fun z => (List.mem_cons.mp z).elim (fun e => h e.symm) h2)]
theorem wipe_set {σ : L2.St} {i : Nat} {x : Option V} {js : List Nat} (h : i ∈ js) : wipe (σ.set i x) js = wipe σ js := by
  apply List.ext_getElem?
  intro j
  rw [wipe_get, wipe_get, List.length_set]
  by_cases hj : j ∈ js
  · rw [if_pos hj, if_pos hj]
  · rw [if_neg hj, if_neg hj, List.getElem?_set_ne (fun e => hj (by rw [← e]; exact h))]
theorem wipe_wipe {σ : L2.St} {vs : List Nat} : wipe (wipe σ vs) vs = wipe σ vs := by
  apply List.ext_getElem?
  intro j
  rw [wipe_get, wipe_length, wipe_get]
  split <;> rfl
section
variable {X : Cx} {pos : Pos} {k : Nat}
def gN (i : Nat) : (GW S) := fun d ρ P => P { ρ with sl := ρ.sl.set i (.val d) }
theorem cg_n (i : Nat) {x : Str} (nd : X.N.Nodup) (hi : X.N[i]? = some x := by rfl) (hx : Loc X.env.scope x := by first | exact .inl rfl | exact .inr rfl) (hf : X.fn x = true ∨ X.env.scope.names.lookup x = some .local := by first | exact .inl rfl | exact .inr rfl) : CG (S := S) X (.Name x pos) [i] (gN i) :=
  pg_mono (pg_name nd hi hx hf) fun v σ H Q ⟨B, pa, τ, F, ρ, θ, P, d, R, hl, hd, h, q⟩ => by
    by_cases hi : i < σ.length
    · have R1 := R.setVal hd (i := i) (by simp; omega)
      rw [List.set_append_left _ _ hi, List.set_append_left _ _ (by omega)] at R1
      exact q _ _ h (by simp) (by simpa using hl) (fun js hj => wipe_set (hj i (by simp))) R1
    · have e1 : σ.set i (some v) = σ := List.set_eq_of_length_le (by omega)
      have e2 : ρ.sl.set i (.val d) = ρ.sl := List.set_eq_of_length_le (by omega)
      have h : P { ρ with sl := ρ.sl.set i (.val d) } := h
      show Q (σ.set i (some v)) H
      rw [e2] at h
      rw [e1]
      exact q _ _ h rfl hl (fun _ _ => rfl) R
def gNil : (GWs S) := fun ds ρ P => ds = [] ∧ P ρ
def gCons (g : (GW S)) (u : (GWs S)) : (GWs S) := fun ds ρ P => match ds with
  | d :: r => g d ρ fun ρ1 => u r ρ1 P
  | [] => False
theorem cgs_nil : CGs (S := S) X [] [] gNil := pgs_mono pgs_nil fun v σ H Q ⟨B, pa, τ, F, ρ, θ, P, ds, R, hl, hd, ⟨h1, h⟩, q⟩ => by
  subst h1
  exact ⟨DRs.nil_.mp hd, q _ _ h rfl hl (fun _ _ => rfl) R⟩
theorem cgs_cons {e : Expr} {es : List Expr} {i1 i2 : List Nat} {g : (GW S)} {u : (GWs S)} (h1 : CG (S := S) X e i1 g) (h2 : CGs (S := S) X es i2 u) (hs : (assignEach (e :: es) X.env).map (·.2) = assign e X.env :: (assignEach es X.env).map (·.2) := by rfl) : CGs (S := S) X (e :: es) (i1 ++ i2) (gCons g u) :=
  pgs_mono (pgs_cons h1 h2 hs) fun v σ H Q ⟨B, pa, τ, F, ρ, θ, P, ds, R, hl, hd, h, q⟩ => by
    cases ds with
    | nil => exact h.elim
    | cons d ds =>
      obtain ⟨x, r, rfl, hd1, hd2⟩ := DRs.cons_.mp hd
      refine ⟨x, r, rfl, B, pa, τ, F, ρ, θ, _, d, R, hl, hd1, h, fun ρ1 σ1 hp l1 l2 w1 R1 => ?_⟩
      refine ⟨B, pa, τ, F, ρ1, θ, P, ds, R1, by omega, hd2, hp, fun ρ2 σ2 hp2 l3 l4 w2 R2 => ?_⟩
      exact q ρ2 σ2 hp2 (by omega) (by omega) (fun js hj => (w2 js fun i hi => hj i (List.mem_append_right _ hi)).trans (w1 js fun i hi => hj i (List.mem_append_left _ hi))) R2
def gT (n : Nat) (u : (GWs S)) : (GW S) := fun d ρ P => match d with
  | .tuple ds => ds.length = n ∧ u ds ρ P
  | _ => False
theorem cg_t {es : List Expr} {x1 : Nat} {is : List Nat} {u : (GWs S)} {n : Nat} (hx : XO X k) (h : CGs (S := S) X es is u) (hn : (assignEach es X.env).length = n := by rfl) (hst : (assignEach es X.env).findIdx? (·.1) = none := by rfl) : CG (S := S) X (.Tuple es x1 pos) is (gT n u) :=
  pg_mono (pg_tup hx.calm h hn hst) fun v σ H Q ⟨B, pa, τ, F, ρ, θ, P, d, R, hl, hd, h, q⟩ => by
    cases d with
    | tuple ds =>
      obtain ⟨a, vs, rfl, h1, h2⟩ := DR.tuple_s hd
      exact ⟨a, vs, rfl, R.fh.t h1, by rw [h2.len]; exact h.1, B, pa, τ, F, ρ, θ, P, ds, R, hl, h2, h.2, q⟩
    | _ => exact h.elim
end
end Dk
namespace Dk
open PySem PySem.Spec PyProof.Rows L2
variable {S : Type} [StK S]
def wipeD (ρ : List Sl) : List Nat → List Sl
  | [] => ρ
  | v :: vs => (wipeD ρ vs).set v .un
def keepV : Option Sl → Sl
  | some (.val d) => .val d
  | _ => .un
def unwipe (ρ0 ρ : List Sl) : List Nat → List Sl
  | [] => ρ
  | v :: vs => (unwipe ρ0 ρ vs).set v (keepV ρ0[v]?)
theorem wipeD_len (ρ : List Sl) : ∀ vs, (wipeD ρ vs).length = ρ.length
  | [] => rfl
  | v :: vs => by unfold wipeD; rw [List.length_set, wipeD_len ρ vs]
theorem unwipe_len (ρ0 ρ : List Sl) : ∀ vs, (unwipe ρ0 ρ vs).length = ρ.length
  | [] => rfl
  | v :: vs => by unfold unwipe; rw [List.length_set, unwipe_len ρ0 ρ vs]
theorem wipeD_get {ρ : List Sl} {i : Nat} : ∀ {vs : List Nat}, (wipeD ρ vs)[i]? = if i ∈ vs then (if i < ρ.length then some .un else none) else ρ[i]?
  | [] => by simp [wipeD]
  | v :: vs => by
    unfold wipeD
    by_cases h : v = i
    · subst h
      rw [List.getElem?_set_self', if_pos List.mem_cons_self]
      have := wipeD_len ρ vs
      by_cases hi : v < ρ.length
      · rw [if_pos hi, List.getElem?_eq_getElem (by omega)]; rfl
      · rw [if_neg hi, List.getElem?_eq_none (by omega)]; rfl
    · rw [List.getElem?_set_ne h, wipeD_get]
      by_cases h2 : i ∈ vs
      · rw [if_pos h2, if_pos (List.mem_cons_of_mem _ h2)]
      · rw [if_neg h2, if_neg (fun z => (List.mem_cons.mp z).elim (fun e => h e.symm) h2)]
theorem unwipe_get {ρ0 ρ : List Sl} {i : Nat} : ∀ {vs : List Nat}, (unwipe ρ0 ρ vs)[i]? = if i ∈ vs then (if i < ρ.length then some (keepV ρ0[i]?) else none) else ρ[i]?
  | [] => by simp [unwipe]
  | v :: vs => by
    unfold unwipe
    by_cases h : v = i
    · subst h
      rw [List.getElem?_set_self', if_pos List.mem_cons_self]
      have := unwipe_len ρ0 ρ vs
      by_cases hi : v < ρ.length
      · rw [if_pos hi, List.getElem?_eq_getElem (l := unwipe ρ0 ρ vs) (by omega)]; rfl
      · rw [if_neg hi, List.getElem?_eq_none (l := unwipe ρ0 ρ vs) (by omega)]; rfl
    · rw [List.getElem?_set_ne h, unwipe_get]
      by_cases h2 : i ∈ vs
      · rw [if_pos h2, if_pos (List.mem_cons_of_mem _ h2)]
      · rw [if_neg h2, if_neg (fun z => (List.mem_cons.mp z).elim (fun e => h e.symm) h2)]
theorem Rel.wiped {K : Fg} {B : Bs} {pa : Option Addr} {σ : L2.St} {τ : List (Option V)} {H F : Hp} {ρ θ : List Sl} {pn : S} (vs : List Nat) (R : Rel K B pa (σ ++ τ) H F (ρ ++ θ) pn) (hl : ρ.length = σ.length) : Rel K B pa (wipe σ vs ++ τ) H F (wipeD ρ vs ++ θ) pn := by
  have hτ : τ.length = θ.length := by have := R.len; simp at this; omega
  refine R.patch (by simp [wipe_length, wipeD_len, hl, hτ]) fun i s e => ?_
  by_cases hi : i < ρ.length
  · rw [List.getElem?_append_left (by rw [wipeD_len]; exact hi), wipeD_get] at e
    rw [List.getElem?_append_left hi, List.getElem?_append_left (by rw [wipe_length]; omega), List.getElem?_append_left (by omega), wipe_get]
    by_cases hv : i ∈ vs
    · rw [if_pos hv, if_pos hi] at e
      rw [if_pos hv, if_pos (by omega)]
      cases e
      exact .inr ⟨⟨none, rfl, trivial⟩, fun _ => nofun⟩
    · rw [if_neg hv] at e
      rw [if_neg hv]
      exact .inl ⟨e, rfl⟩
  · rw [List.getElem?_append_right (by rw [wipeD_len]; omega), wipeD_len] at e
    rw [List.getElem?_append_right (by omega), List.getElem?_append_right (by rw [wipe_length]; omega), List.getElem?_append_right (by omega), wipe_length]
    exact .inl ⟨e, rfl⟩
theorem Rel.unwiped {K : Fg} {B : Bs} {pa : Option Addr} {σ : L2.St} {τ τ0 : List (Option V)} {H F H0 F0 : Hp} {ρ ρ0 θ θ0 : List Sl} {pn pn0 : S} (vs : List Nat) (R : Rel K B pa (wipe σ vs ++ τ) H F (ρ ++ θ) pn) (hl : ρ.length = σ.length) (R0 : Rel K B pa (σ ++ τ0) H0 F0 (ρ0 ++ θ0) pn0) (hl0 : ρ0.length = σ.length) (hF : Le F0 F) : Rel K B pa (σ ++ τ) H F (unwipe ρ0 ρ vs ++ θ) pn := by
  have hτ : τ.length = θ.length := by have := R.len; simp [wipe_length] at this; omega
  refine R.patch (by simp [unwipe_len, hl, hτ]) fun i s e => ?_
  by_cases hi : i < ρ.length
  · rw [List.getElem?_append_left (by rw [unwipe_len]; exact hi), unwipe_get] at e
    rw [List.getElem?_append_left hi, List.getElem?_append_left (by omega), List.getElem?_append_left (by rw [wipe_length]; omega), wipe_get]
    by_cases hv : i ∈ vs
    · rw [if_pos hv, if_pos hi] at e
      cases e
      refine .inr ⟨?_, fun xs => ?_⟩
      · have hs : i < σ.length := by omega
        refine ⟨σ[i], List.getElem?_eq_getElem hs, ?_⟩
        cases hk : ρ0[i]? with
        | none => trivial
        | some t =>
          cases t with
          | val d =>
            obtain ⟨o, h1, v, h2, h3⟩ := R0.sl i (.val d) (by rw [List.getElem?_append_left (by omega)]; exact hk)
            subst h2
            rw [List.getElem?_append_left hs, List.getElem?_eq_getElem hs] at h1
            exact ⟨v, by injection h1, h3.mono hF⟩
          | _ => trivial
      · cases hk : ρ0[i]? with
        | none => nofun
        | some t => cases t <;> nofun
    · rw [if_neg hv] at e
      rw [if_neg hv]
      exact .inl ⟨e, rfl⟩
  · rw [List.getElem?_append_right (by rw [unwipe_len]; omega), unwipe_len] at e
    rw [List.getElem?_append_right (by omega), List.getElem?_append_right (by omega), List.getElem?_append_right (by rw [wipe_length]; omega), wipe_length]
    exact .inl ⟨e, rfl⟩
theorem Rel.last {K : Fg} {B : Bs} {pa : Option Addr} {zs : List (Option V)} {H F : Hp} {ws : List Sl} {pn : S} {o : Option V} {s : Sl} (R : Rel K B pa (zs ++ [o]) H F (ws ++ [s]) pn) : SlotR K B pa H F s o ∧ (zs ++ [o])[ws.length]? = some o := by
  have h := R.pop.len
  obtain ⟨o', h1, h2⟩ := R.sl ws.length s (app_last _ _)
  rw [← h, app_last] at h1
  cases h1
  exact ⟨h2, by rw [← h, app_last]⟩
theorem Rel.focus {K : Fg} {B : Bs} {pa : Option Addr} {zs : List (Option V)} {H F : Hp} {ws : List Sl} {pn : S} (R : Rel K B pa zs H F ws pn) : Rel K ⟨B.H0, F, B.M⟩ pa zs H F ws pn :=
  ⟨R.len, R.fh, R.base, Le.refl _, fun b o e => .inl e, R.sl, R.inj, R.st.imp fun _ t => ⟨t.r, t.hn, t.fn, t.bs, t.ap⟩, R.pal, R.sz, R.tg⟩
theorem Rel.rebase {K : Fg} {B : Bs} {pa : Option Addr} {zs zs1 : List (Option V)} {H F H1 F1 : Hp} {ws ws1 : List Sl} {pn pn1 : S} (R : Rel K ⟨B.H0, F1, B.M⟩ pa zs H F ws pn) (R1 : Rel K B pa zs1 H1 F1 ws1 pn1) : Rel K B pa zs H F ws pn :=
  ⟨R.len, R.fh, R.base, R1.f0.trans R.f0, fun b o e => (R.fr b o e).elim (R1.fr b o) .inr, R.sl, R.inj, R.st.imp fun _ t => ⟨t.r, t.hn, t.fn, t.bs, t.ap⟩, R.pal, R.sz, R.tg⟩
theorem rds_mem {ρ : En S} : ∀ {ks : List Tk} {ds : List D} {j : Nat} {k : Tk}, rds ρ ks = some ds → ks[j]? = some k → ∃ d, k.rd ρ = some d
  | [], ds, j, k, _, e => by simp at e
  | k' :: ks, ds, j, k, h, e => by
    rw [rds_cons] at h
    obtain ⟨d, h1, h⟩ := Option.bind_eq_some_iff.mp h
    obtain ⟨ds', h2, h⟩ := Option.bind_eq_some_iff.mp h
    cases j with
    | zero => simp at e; subst e; exact ⟨d, h1⟩
    | succ j => exact rds_mem h2 (by simpa using e)
theorem live_read {K : Fg} {B : Bs} {pa : Option Addr} {σ : L2.St} {τ : List (Option V)} {H F : Hp} {ρ : En S} {ρ0 θ : List Sl} {vs : List Nat} {us : List V} {c : Sc} {items : List D} (R : Rel K B pa (wipe σ vs ++ (τ ++ us.map some)) H F (ρ.sl ++ (θ ++ c.ks.map Tk.sl)) ρ.pn) (hl : ρ.sl.length = σ.length) (hτ : τ.length = θ.length) (hρ : ρ.sl = wipeD ρ0 vs)
    (hk : c.ks.length = us.length) (s1 : ∀ (j : Nat) i v, c.ks[j]? = some (.slot i) → us[j]? = some v → σ[i]? = some (some v)) (h : c.items ρ = some items) : ∃ ds, RdDs K H F ds us ∧ c.f ds = some items := by
  obtain ⟨ds, h1, h2⟩ := Option.bind_eq_some_iff.mp h
  refine ⟨ds, reads_all (σ := wipe σ vs) (by rw [wipe_length]; exact hl) c.ks us τ θ ds hτ hk R (fun j i v e1 e2 => ?_) h1, h2⟩
  obtain ⟨d, h3⟩ := rds_mem h1 e1
  have h3 : (ρ.sl[i]?).bind Sl.rd = some d := h3
  have hn : i ∉ vs := fun hv => by
    rw [hρ, wipeD_get, if_pos hv] at h3
    split at h3 <;> cases h3
  rw [wipe_get, if_neg hn]
  exact s1 j i v e1 e2
def Tk.valD : Tk → Option D
  | .tmp (.val d) => some d
  | _ => none
@[simp] theorem valD_val {d : D} : Tk.valD (.tmp (.val d)) = some d := rfl
theorem valD_some {k : Tk} {d : D} (h : k.valD = some d) : k = .tmp (.val d) := by
  unfold Tk.valD at h
  split at h
  · cases h; rfl
  · cases h
def lcW (c : Sc) (items : List D) (g : (GW S)) (tt : (BW S)) (te : (OW S)) (vs : List Nat) (Q : List D → (En S) → Prop) : List D → List D → (En S) → Prop
  | [], acc, ρ => c.items ρ = some items ∧ Q acc ρ
  | d :: r, acc, ρ => c.items ρ = some items ∧ g d ρ fun ρ1 => tt ρ1 fun b ρ2 => if b = true then te ρ2 fun k ρ3 => gets k.valD fun y => lcW c items g tt te vs Q r (acc ++ [y]) { ρ3 with sl := wipeD ρ3.sl vs } else lcW c items g tt te vs Q r acc { ρ2 with sl := wipeD ρ2.sl vs }
def dLc (it : (IW S)) (g : (GW S)) (tt : (BW S)) (te : (OW S)) (vs : List Nat) : (DW S) := fun ρ P => it ρ fun c ρ1 => gets (c.items ρ1) fun items => items.length ≤ sizeLine →
  lcW c items g tt te vs (fun acc ρ2 => P (.own acc) { ρ2 with sl := unwipe ρ1.sl ρ2.sl vs }) items [] { ρ1 with sl := wipeD ρ1.sl vs }
theorem lc_step {K : Fg} {it : (IW S)} {g : (GW S)} {tt : (BW S)} {te : (OW S)} {is vs : List Nat} (hv : ∀ i ∈ is, i ∈ vs) {σ : L2.St} {H : Hp} {Q : VK} (h : liftO K (tmpD (dLc it g tt te vs)) σ H Q) : tLc (liftI K it) (liftG K is g) (liftT K tt) (liftO K te) vs σ H Q := by
  obtain ⟨B, pa, τ, F, ρ, θ, P, R, hl, h, q⟩ := toE h
  refine ⟨B, pa, τ, F, ρ, θ, _, R, hl, h, fun c ρ1 us H1 F1 J h1 hl1 hk R1 s1 src => fun Da hDa => ?_⟩
  obtain ⟨items, ei, h1⟩ := gets_elim h1
  have hτ : τ.length = θ.length := by have := (R1.pops (by simp [hk])).len; simp at this; omega
  have R1' : Rel K B pa (σ ++ (τ ++ us.map some)) H1 F1 (ρ1.sl ++ (θ ++ c.ks.map Tk.sl)) ρ1.pn := by simpa only [List.append_assoc] using R1
  obtain ⟨ds0, er, ef⟩ := Option.bind_eq_some_iff.mp ei
  have rd0 := reads_all (σ := σ) hl1 c.ks us τ θ ds0 hτ hk R1' s1 er
  obtain ⟨_, hsz⟩ := src.stop H1 F1 ds0 items R1.sz (Le.refl _) R1.fh rd0 ef
  have h1 := h1 hsz
  refine ⟨fun i m Hc => ∃ (ρc ρ0 : (En S)) (Fc : Hp) (acc : List D), Rel K ⟨B.H0, F1, B.M⟩ pa (wipe σ vs ++ (τ ++ us.map some) ++ [some (.ref Da)]) Hc Fc (ρc.sl ++ (θ ++ c.ks.map Tk.sl) ++ [.own acc]) ρc.pn ∧ ρc.sl.length = σ.length ∧ ρc.sl = wipeD ρ0.sl vs ∧ i ≤ items.length ∧ m = items.length - i ∧ acc.length ≤ i ∧
    lcW c items g tt te vs (fun acc ρ2 => P (.own acc) { ρ2 with sl := unwipe ρ1.sl ρ2.sl vs }) (items.drop i) acc ρc, ⟨items.length, { ρ1 with sl := wipeD ρ1.sl vs }, ρ1, F1, [], ?_, by simp [wipeD_len, hl1], rfl, Nat.zero_le _, rfl, Nat.le_refl _, h1⟩, ?_⟩
  · have R2 := R1'.focus.pushOwn (vs := []) hDa .nil (Nat.zero_le _)
    rw [List.append_assoc σ, List.append_assoc ρ1.sl] at R2
    have R3 := R2.wiped vs hl1
    rw [← List.append_assoc (wipe σ vs), ← List.append_assoc (wipeD ρ1.sl vs)] at R3
    exact R3
  · rintro i m Hc ⟨ρc, ρ0, Fc, acc, Rc, hlc, hw, hi, rfl, ha, hq⟩
    by_cases hlt : i < items.length
    · have ed : items.drop i = items[i] :: items.drop (i + 1) := List.drop_eq_getElem_cons hlt
      rw [ed] at hq
      obtain ⟨hlive, hq⟩ := hq
      obtain ⟨ds, rd, ef⟩ := live_read Rc.pop hlc hτ hw hk s1 hlive
      obtain ⟨go, yl⟩ := src.step Hc Fc ds items i items[i] Rc.sz Rc.f0 Rc.fh rd ef (List.getElem?_eq_getElem hlt)
      refine .inr ⟨go, fun H' => ∃ (ρc ρ0 : (En S)) (Fc : Hp) (acc : List D), Rel K ⟨B.H0, F1, B.M⟩ pa (wipe σ vs ++ (τ ++ us.map some) ++ [some (.ref Da)]) H' Fc (ρc.sl ++ (θ ++ c.ks.map Tk.sl) ++ [.own acc]) ρc.pn ∧ ρc.sl.length = σ.length ∧ ρc.sl = wipeD ρ0.sl vs ∧ acc.length ≤ i + 1 ∧
        lcW c items g tt te vs (fun acc ρ2 => P (.own acc) { ρ2 with sl := unwipe ρ1.sl ρ2.sl vs }) (items.drop (i + 1)) acc ρc, fun H' ⟨ρc, ρ0, Fc, acc, a1, a2, a3, a5, a6⟩ => ⟨items.length - (i + 1), by omega, ρc, ρ0, Fc, acc, a1, a2, a3, hlt, rfl, a5, a6⟩, fun x H' hy => ?_⟩
      obtain ⟨F', hF', R', dx⟩ := Rc.yl (yl x H' hy)
      refine ⟨⟨B.H0, F1, B.M⟩, pa, τ ++ us.map some ++ [some (.ref Da)], F', ρc, θ ++ c.ks.map Tk.sl ++ [.own acc], _, items[i], by simpa only [List.append_assoc] using R', by rw [wipe_length]; exact hlc, dx, hq, fun ρ2 σ2 h2 l1 l2 w2 R2 => ⟨?_, ?_⟩⟩
      · rw [w2 vs hv, wipe_wipe]
      · rw [wipe_length] at l1 l2
        have ew : wipe σ2 vs = wipe σ vs := by rw [w2 vs hv, wipe_wipe]
        refine ⟨⟨B.H0, F1, B.M⟩, pa, _, F', ρ2, _, _, R2, by omega, h2, fun b ρ3 H3 F3 h3 l3 R3 => ?_⟩
        cases b with
        | false =>
          refine iteF ⟨{ ρ3 with sl := wipeD ρ3.sl vs }, ρ3, F3, acc, ?_, by simp [wipeD_len]; omega, rfl, by omega, by simpa using h3⟩
          have R4 := R3.wiped vs (by omega)
          rw [ew] at R4
          simpa only [List.append_assoc] using R4
        | true =>
          have h3 : te ρ3 fun k ρ4 => gets k.valD fun y => lcW c items g tt te vs (fun acc ρ2 => P (.own acc) { ρ2 with sl := unwipe ρ1.sl ρ2.sl vs }) (items.drop (i + 1)) (acc ++ [y]) { ρ4 with sl := wipeD ρ4.sl vs } := by simpa using h3
          refine iteT ⟨⟨B.H0, F1, B.M⟩, pa, _, F3, ρ3, _, _, R3, by omega, h3, fun k ρ4 y H4 F4 h4 l4 R4 _ => ?_⟩
          obtain ⟨d, ek, h4⟩ := gets_elim h4
          have ek := valD_some ek
          subst ek
          obtain ⟨⟨u, g2, g3⟩, _⟩ := Rel.last (s := .val d) R4
          cases g2
          have R5 : Rel K ⟨B.H0, F1, B.M⟩ pa (σ2 ++ (τ ++ us.map some) ++ [some (.ref Da)]) H4 F4 (ρ4.sl ++ (θ ++ c.ks.map Tk.sl) ++ [.own acc]) ρ4.pn := by simpa only [List.append_assoc] using R4.pop
          obtain ⟨⟨a', av, q2, q3, q4, _⟩, q1⟩ := R5.last
          cases q2
          have hal : av.length < sizeLine := by rw [q4.len]; omega
          refine ⟨av, q3, hal, { ρ4 with sl := wipeD ρ4.sl vs }, ρ4, F4, acc ++ [d], ?_, by simp [wipeD_len]; omega, rfl, by simp; omega, h4⟩
          have R6 := R5.write (i := (ρ4.sl ++ (θ ++ c.ks.map Tk.sl)).length) (a := Da) (ys := acc ++ [d]) (vs := av ++ [y]) (app_last _ _) q1 (q4.append (.cons g3 .nil)) (by simp; omega)
          rw [List.set_append_right _ _ (Nat.le_refl _), Nat.sub_self] at R6
          have R7 : Rel K ⟨B.H0, F1, B.M⟩ pa (σ2 ++ (τ ++ us.map some ++ [some (.ref Da)])) (upd H4 Da (.lst (av ++ [y]))) F4 (ρ4.sl ++ (θ ++ c.ks.map Tk.sl ++ [.own (acc ++ [d])])) ρ4.pn := by simpa only [List.append_assoc, List.set_cons_zero] using R6
          have R8 := R7.wiped vs (by omega)
          rw [ew] at R8
          simpa only [List.append_assoc] using R8
    · have e : i = items.length := by omega
      subst e
      rw [List.drop_length] at hq
      obtain ⟨hlive, hq⟩ := hq
      obtain ⟨ds, rd, ef⟩ := live_read Rc.pop hlc hτ hw hk s1 hlive
      refine .inl ⟨(src.stop Hc Fc ds items Rc.sz Rc.f0 Rc.fh rd ef).1, q _ _ _ Hc Fc hq (by simp [unwipe_len, hlc]) ?_⟩
      have R5 : Rel K ⟨B.H0, F1, B.M⟩ pa (wipe σ vs ++ (τ ++ us.map some ++ [some (.ref Da)])) Hc Fc (ρc.sl ++ (θ ++ c.ks.map Tk.sl ++ [.own acc])) ρc.pn := by simpa only [List.append_assoc] using Rc
      have R6 := (R5.rebase R1').unwiped vs hlc R1' hl1 Rc.f0
      have R7 : Rel K B pa ((σ ++ τ) ++ us.map some ++ [some (.ref Da)]) Hc Fc ((unwipe ρ1.sl ρc.sl vs ++ θ) ++ c.ks.map Tk.sl ++ [.own acc]) ρc.pn := by simpa only [List.append_assoc] using R6
      exact R7.dropMid (by simp [unwipe_len, hlc, hl1, hτ]) (by simp [hk])
section
variable {X : Cx} {tg iter elt : Expr} {ifs : List Expr} {scope : Scope} {pos : Pos} {k : Nat} {it : (IW S)} {g : (GW S)} {tt : (BW S)} {te : (OW S)} {is : List Nat} {own : List (Str × Nat)}
abbrev CTs (X : Cx) (ifs : List Expr) (t : (BW S)) : Prop := PTs X ifs (liftT X.K t)
def dYes : (BW S) := fun ρ P => P true ρ
theorem pts_mono {X : Cx} {ifs : List Expr} {t u : TT} (h : PTs X ifs t) (m : ∀ σ H Q, u σ H Q → t σ H Q) : PTs X ifs u := ⟨fun pins s σ H Q I q => h.run pins s σ H Q I (m σ H Q q)⟩
theorem cts_nil {X : Cx} : CTs (S := S) X [] dYes := pts_mono pts_nil fun σ H Q ⟨B, pa, τ, F, ρ, θ, P, R, hl, h, q⟩ => q true ρ H F h hl R
theorem cts_one {X : Cx} {c : Expr} {t : (BW S)} (h : CT (S := S) X c t) : CTs (S := S) X [c] t := pts_one h
theorem XO.blk {s : Shared} {H : Hp} {cenv : Env} {fp : List Addr} (h : XO X k) : XO (X.blk s H scope cenv fp) k := ⟨h.calm, h.room, h.gd, h.nd, PassesOwn.never⟩
theorem ce_lc (own : List (Str × Nat)) (hx : XO X k) (hi : CI (S := S) X tg iter it)
    (hg : ∀ (s : Shared) (H : Hp) (C : Addr) (cl : List (Str × Addr)) (fp : List Addr), CG (S := S) (X.blk s H scope (compEnvC scope cl C X.env) fp) tg is g)
    (ht : ∀ (s : Shared) (H : Hp) (C : Addr) (cl : List (Str × Addr)) (fp : List Addr), CTs (S := S) (X.blk s H scope (compEnvC scope cl C X.env) fp) ifs tt)
    (he : ∀ (s : Shared) (H : Hp) (C : Addr) (cl : List (Str × Addr)) (fp : List Addr), CO (S := S) (X.blk s H scope (compEnvC scope cl C X.env) fp) elt te)
    (ok : blkC X.N X.env.scope scope own = true := by kernel_rfl) (hv : ∀ i ∈ is, i ∈ own.map (·.2) := by decide) (hs : ∀ x, foldedSetIterable iter X.env x = pure x := by intro _; rfl) :
    CE (S := S) X (.ListComp elt [⟨tg, iter, ifs, 0⟩] scope pos) (dLc it g tt te (own.map (·.2))) := pe_mono (pe_lc hx.calm hx.nd hi (blkOk_by ok) hg ht he hs) fun _ _ _ h => lc_step hv h
end
end Dk
namespace Dk
open PySem PySem.Spec PyProof.Rows L2
variable {S : Type} [StK S]
structure DE (S : Type := Option Pen) where
  nx : (En S) → Prop
  rt : D → S → Prop
  bk : (En S) → Prop := fun _ => False
  ct : (En S) → Prop := fun _ => False
  ro : List D → S → Prop := fun _ _ => False
abbrev DS (S : Type := Option Pen) := (DE S) → (En S) → Prop
structure Cont (K : Fg) (B : Bs) (pa : Option Addr) (τ : List (Option V)) (θ : List Sl) (n : Nat) (E : (DE S)) (Z : Ends) : Prop where
  nx : ∀ (σ : L2.St) (ρ : (En S)) (H F : Hp), E.nx ρ → σ.length = n → ρ.sl.length = n → Rel K B pa (σ ++ τ) H F (ρ.sl ++ θ) ρ.pn → Z.nx σ H
  bk : ∀ (σ : L2.St) (ρ : (En S)) (H F : Hp), E.bk ρ → σ.length = n → ρ.sl.length = n → Rel K B pa (σ ++ τ) H F (ρ.sl ++ θ) ρ.pn → Z.bk σ H
  ct : ∀ (σ : L2.St) (ρ : (En S)) (H F : Hp), E.ct ρ → σ.length = n → ρ.sl.length = n → Rel K B pa (σ ++ τ) H F (ρ.sl ++ θ) ρ.pn → Z.ct σ H
  rt : ∀ (zs : List (Option V)) (ws : List Sl) (d : D) (pn : S) (v : V) (H F : Hp), E.rt d pn → Rel K B pa (zs ++ [some v]) H F (ws ++ [.val d]) pn → Z.rt v H
  ro : ∀ (zs : List (Option V)) (ws : List Sl) (xs : List D) (pn : S) (v : V) (H F : Hp), E.ro xs pn → Rel K B pa (zs ++ [some v]) H F (ws ++ [.own xs]) pn → Z.rt v H
def liftS (K : Fg) (t : (DS S)) : TS := fun Z σ H => ∃ B pa τ F ρ θ E, Rel K B pa (σ ++ τ) H F (ρ.sl ++ θ) ρ.pn ∧ ρ.sl.length = σ.length ∧ t E ρ ∧ Cont K B pa τ θ σ.length E Z
abbrev CS (X : Cx) (s : Stmt) (t : (DS S)) : Prop := PS X s (liftS X.K t)
abbrev CSs (X : Cx) (s : List Stmt) (t : (DS S)) : Prop := PSs X s (liftS X.K t)
theorem ps_mono {X : Cx} {s : Stmt} {t u : TS} (h : PS X s t) (m : ∀ Z σ H, u Z σ H → t Z σ H) : PS X s u := ⟨fun pins s σ H Z I q => h.run pins s σ H Z I (m Z σ H q)⟩
theorem pss_mono {X : Cx} {s : List Stmt} {t u : TS} (h : PSs X s t) (m : ∀ Z σ H, u Z σ H → t Z σ H) : PSs X s u := ⟨fun pins s σ H Z I q => h.run pins s σ H Z I (m Z σ H q)⟩
section
variable {X : Cx} {s : Stmt} {ss a b : List Stmt} {e c : Expr} {t u : (DS S)} {te : (DW S)} {to : (OW S)} {tb : (BW S)} {pos p : Pos} {k : Nat}
def sNil : (DS S) := fun E ρ => E.nx ρ
def sCons (t u : (DS S)) : (DS S) := fun E ρ => t { E with nx := fun ρ1 => u E ρ1 } ρ
theorem css_nil : CSs (S := S) X [] sNil := pss_mono pss_nil fun Z σ H ⟨B, pa, τ, F, ρ, θ, E, R, hl, h, q⟩ => q.nx σ ρ H F h rfl hl R
theorem css_cons (h1 : CS (S := S) X s t) (h2 : CSs (S := S) X ss u) : CSs (S := S) X (s :: ss) (sCons t u) := pss_mono (pss_cons h1 h2) fun Z σ H ⟨B, pa, τ, F, ρ, θ, E, R, hl, h, q⟩ =>
  ⟨B, pa, τ, F, ρ, θ, _, R, hl, h, fun σ1 ρ1 H1 F1 h1 l1 l2 R1 => ⟨B, pa, τ, F1, ρ1, θ, E, R1, by omega, h1, by rw [l1]; exact q⟩, q.bk, q.ct, q.rt, q.ro⟩
theorem css_one (h1 : CS (S := S) X s t) : CSs (S := S) X [s] t := pss_one h1
def dSet (i : Nat) (t : (DW S)) : (DS S) := fun E ρ => t ρ fun r ρ1 => E.nx { ρ1 with sl := ρ1.sl.set i r.sl }
theorem set_step {K : Fg} {i : Nat} {Z : Ends} {σ : L2.St} {H : Hp} (hi : i < σ.length) (h : liftS K (dSet i te) Z σ H) : liftO K (tmpD te) σ H fun x H1 => gName i x σ H1 Z.nx := by
  obtain ⟨B, pa, τ, F, ρ, θ, E, R, hl, h, q⟩ := h
  refine ofE ⟨B, pa, τ, F, ρ, θ, _, R, hl, h, fun r ρ1 v H1 F1 h1 l1 R1 => ?_⟩
  have R2 := R1.move (i := i) (by simp; omega)
  rw [List.set_append_left _ _ hi, List.set_append_left _ _ (by omega)] at R2
  exact q.nx _ _ H1 F1 h1 (by simp) (by simpa using l1) R2
theorem cs_set (i : Nat) {x : Str} {p' : Pos} (hx0 : XO X k) (he : CE (S := S) X e te) (hi : X.N[i]? = some x := by rfl) (hx : Loc X.env.scope x := by first | exact .inl rfl | exact .inr rfl) (hs : swapsWith e (some (.Name x p')) pos.line X.env = pure false := by rfl)
    (hf : X.fn x = true ∨ X.env.scope.names.lookup x = some .local := by first | exact .inl rfl | exact .inr rfl) : CS (S := S) X (.Assign [.Name x p'] e pos) (dSet i te) := by
  refine ⟨fun pins s σ H Z I h => ?_⟩
  exact (ps_set hx0.nd hi hx he hs hf).run pins s σ H Z I (set_step (by rw [I.len]; exact (List.getElem?_eq_some_iff.mp hi).1) h)
theorem cs_setLc (i : Nat) {x : Str} {py : Pos} {tg iter elt : Expr} {ifs : List Expr} {scope : Scope} {it : (IW S)} {g : (GW S)} {tt : (BW S)} {te : (OW S)} {is : List Nat} (own : List (Str × Nat)) (hx0 : XO X k) (hi : CI (S := S) X tg iter it)
    (hg : ∀ (s : Shared) (H : Hp) (C : Addr) (cl : List (Str × Addr)) (fp : List Addr), CG (S := S) (X.blk s H scope (compEnvC scope cl C X.env) fp) tg is g)
    (ht : ∀ (s : Shared) (H : Hp) (C : Addr) (cl : List (Str × Addr)) (fp : List Addr), CTs (S := S) (X.blk s H scope (compEnvC scope cl C X.env) fp) ifs tt)
    (he : ∀ (s : Shared) (H : Hp) (C : Addr) (cl : List (Str × Addr)) (fp : List Addr), CO (S := S) (X.blk s H scope (compEnvC scope cl C X.env) fp) elt te)
    (hxi : X.N[i]? = some x := by rfl) (hyl : X.env.scope.names.lookup x = some .local := by rfl)
    (hsw : swapsWith (.ListComp elt [⟨tg, iter, ifs, 0⟩] scope p) (some (.Name x py)) pos.line X.env = pure true := by exact sw_true rfl rfl rfl (by decide +kernel))
    (ok : blkC X.N X.env.scope scope own = true := by kernel_rfl) (hv : ∀ i ∈ is, i ∈ own.map (·.2) := by decide) (hs : ∀ x, foldedSetIterable iter X.env x = pure x := by intro _; rfl) :
    CS (S := S) X (.Assign [.Name x py] (.ListComp elt [⟨tg, iter, ifs, 0⟩] scope p) pos) (dSet i (dLc it g tt te (own.map (·.2)))) := by
  refine ⟨fun pins s σ H Z I h => ?_⟩
  exact (ps_setLc hx0.calm hx0.nd hxi hyl hsw hi (blkOk_by ok) hg ht he hs).run pins s σ H Z I (lc_step hv (set_step (by rw [I.len]; exact (List.getElem?_eq_some_iff.mp hxi).1) h))
def dRet (t : (DW S)) : (DS S) := fun E ρ => t ρ fun r ρ1 => E.rt r.d ρ1.pn
theorem cs_ret (he : CE (S := S) X e te) : CS (S := S) X (.Return (some e) pos) (dRet te) := ps_mono (ps_ret he) fun Z σ H ⟨B, pa, τ, F, ρ, θ, E, R, hl, h, q⟩ =>
  ofE ⟨B, pa, τ, F, ρ, θ, _, R, hl, h, fun r ρ1 v H1 F1 h1 l1 R1 => by
    obtain ⟨F2, _, R2⟩ := freezeLast R1
    exact q.rt _ _ _ _ v H1 F2 h1 R2⟩
def dRetN : (DS S) := fun E ρ => E.rt .none ρ.pn
def sPass : (DS S) := fun E ρ => E.nx ρ
def sCont : (DS S) := fun E ρ => E.ct ρ
def sBreak : (DS S) := fun E ρ => E.bk ρ
def dExpr (t : (DW S)) : (DS S) := fun E ρ => t ρ fun _ ρ1 => E.nx ρ1
theorem cs_expr (he : CE (S := S) X e te) (hs : swapsWith e none pos.line X.env = pure false := by rfl) : CS (S := S) X (.Expr e pos) (dExpr te) := ps_mono (ps_expr he hs) fun Z σ H ⟨B, pa, τ, F, ρ, θ, E, R, hl, h, q⟩ =>
  ofE ⟨B, pa, τ, F, ρ, θ, _, R, hl, h, fun r ρ1 v H1 F1 h1 l1 R1 => q.nx σ ρ1 H1 F1 h1 rfl l1 R1.pop⟩
def dIfS (c : (BW S)) (t u : (DS S)) : (DS S) := fun E ρ => c ρ fun b ρ1 => if b = true then t E ρ1 else u E ρ1
theorem cs_if (hc : CT (S := S) X c tb) (ha : CSs (S := S) X a t) (hb : CSs (S := S) X b u) : CS (S := S) X (.If c a b pos) (dIfS tb t u) := ps_mono (ps_if hc ha hb) fun Z σ H ⟨B, pa, τ, F, ρ, θ, E, R, hl, h, q⟩ =>
  ⟨B, pa, τ, F, ρ, θ, _, R, hl, h, fun b ρ1 H1 F1 h1 l1 R1 => by
    cases b with
    | true => exact iteT ⟨B, pa, τ, F1, ρ1, θ, E, R1, l1, h1, q⟩
    | false => exact iteF ⟨B, pa, τ, F1, ρ1, θ, E, R1, l1, h1, q⟩⟩
def dSetT (g : (GW S)) (t : (DW S)) : (DS S) := fun E ρ => t ρ fun r ρ1 => g r.d ρ1 E.nx
def Tk.slot? : Tk → Bool
  | .slot _ => true
  | .fb _ => true
  | _ => false
def forW (g : (GW S)) (b : (DS S)) (E : (DE S)) : List D → (En S) → Prop
  | [], ρ => E.nx ρ
  | d :: r, ρ => g d ρ fun ρ1 => b { nx := forW g b E r, rt := E.rt, bk := E.nx, ct := forW g b E r } ρ1
def dFor (it : (IW S)) (g : (GW S)) (b : (DS S)) : (DS S) := fun E ρ => it ρ fun c ρ1 => (c.ks.any Tk.slot? = false) ∧ gets (c.items ρ1) fun items => items.length ≤ sizeLine → forW g b E items ρ1
theorem rds_fix {ρ ρ' : En S} : ∀ {ks : List Tk}, ks.any Tk.slot? = false → rds ρ ks = rds ρ' ks
  | [], _ => rfl
  | .tmp r :: ks, h => by rw [rds_cons, rds_cons, rds_fix (ρ := ρ) (ρ' := ρ') (ks := ks) (by simpa [Tk.slot?] using h)]; rfl
  | .bt r :: ks, h => by rw [rds_cons, rds_cons, rds_fix (ρ := ρ) (ρ' := ρ') (ks := ks) (by simpa [Tk.slot?] using h)]; rfl
  | .slot r :: ks, h => by simp [Tk.slot?] at h
  | .fb r :: ks, h => by simp [Tk.slot?] at h
theorem noslot {ks : List Tk} (h : ks.any Tk.slot? = false) {j i : Nat} (e : ks[j]? = some (.slot i)) : False := by
  have := List.any_eq_false.mp h (.slot i) (List.mem_of_getElem? e)
  exact this rfl
theorem cs_for {tg iter : Expr} {it : (IW S)} {g : (GW S)} {is : List Nat} {body : List Stmt} (hx : XO X k) (hi : CI (S := S) X tg iter it) (hg : CG (S := S) X tg is g) (hb : CSs (S := S) X body t) (hs : ∀ x, foldedSetIterable iter X.env x = pure x := by intro _; rfl) : CS (S := S) X (.For tg iter body [] pos) (dFor it g t) :=
  ps_mono (ps_for hx.pass hx.calm hi hg hb hs) fun Z σ0 H ⟨B, pa, τ, F, ρ, θ, E, R, hl, h, q⟩ => by
    refine ⟨B, pa, τ, F, ρ, θ, _, R, hl, h, fun c ρ1 us H1 F1 J ⟨hns, h1⟩ hl1 hk R1 s1 src => ?_⟩
    obtain ⟨items, ei, h1⟩ := gets_elim h1
    have hτ : τ.length = θ.length := by have := (R1.pops (by simp [hk])).len; simp at this; omega
    have R1' : Rel X.K B pa (σ0 ++ (τ ++ us.map some)) H1 F1 (ρ1.sl ++ (θ ++ c.ks.map Tk.sl)) ρ1.pn := by simpa only [List.append_assoc] using R1
    obtain ⟨ds0, er, ef⟩ := Option.bind_eq_some_iff.mp ei
    have nos : ∀ (σ : L2.St) (j : Nat) i v, c.ks[j]? = some (.slot i) → us[j]? = some v → σ[i]? = some (some v) := fun σ j i v e _ => (noslot hns e).elim
    have rd0 := reads_all (σ := σ0) hl1 c.ks us τ θ ds0 hτ hk R1' (nos _) er
    obtain ⟨_, hsz⟩ := src.stop H1 F1 ds0 items R1.sz (Le.refl _) R1.fh rd0 ef
    have h1 := h1 hsz
    refine ⟨fun i m σ Hc => ∃ (ρc : (En S)) (Fc : Hp), Rel X.K ⟨B.H0, F1, B.M⟩ pa (σ ++ (τ ++ us.map some)) Hc Fc (ρc.sl ++ (θ ++ c.ks.map Tk.sl)) ρc.pn ∧ σ.length = σ0.length ∧ ρc.sl.length = σ0.length ∧ i ≤ items.length ∧ m = items.length - i ∧ forW g t E (items.drop i) ρc,
      ⟨items.length, ρ1, F1, R1'.focus, rfl, hl1, Nat.zero_le _, rfl, h1⟩, ?_⟩
    rintro i m σ Hc ⟨ρc, Fc, Rc, l1, l2, hi, rfl, hq⟩
    have rd := reads_all (σ := σ) (by omega) c.ks us τ θ ds0 hτ hk Rc (nos _) (by rw [← er]; exact rds_fix hns)
    have drop : ∀ {σ : L2.St} {ρ : (En S)} {H F : Hp}, Rel X.K ⟨B.H0, F1, B.M⟩ pa (σ ++ (τ ++ us.map some)) H F (ρ.sl ++ (θ ++ c.ks.map Tk.sl)) ρ.pn → Rel X.K B pa (σ ++ τ) H F (ρ.sl ++ θ) ρ.pn := fun R => by
      have R := R.rebase R1'
      rw [← List.append_assoc, ← List.append_assoc] at R
      exact R.pops (by simp [hk])
    by_cases hlt : i < items.length
    · have ed : items.drop i = items[i] :: items.drop (i + 1) := List.drop_eq_getElem_cons hlt
      rw [ed] at hq
      obtain ⟨go, yl⟩ := src.step Hc Fc ds0 items i items[i] Rc.sz Rc.f0 Rc.fh rd ef (List.getElem?_eq_getElem hlt)
      refine .inr ⟨go, fun σ' H' => ∃ (ρc : (En S)) (Fc : Hp), Rel X.K ⟨B.H0, F1, B.M⟩ pa (σ' ++ (τ ++ us.map some)) H' Fc (ρc.sl ++ (θ ++ c.ks.map Tk.sl)) ρc.pn ∧ σ'.length = σ0.length ∧ ρc.sl.length = σ0.length ∧ forW g t E (items.drop (i + 1)) ρc, fun σ' H' ⟨ρc, Fc, a1, a2, a3, a4⟩ => ⟨items.length - (i + 1), by omega, ρc, Fc, a1, a2, a3, hlt, rfl, a4⟩, fun x H' hy => ?_⟩
      obtain ⟨F', hF', R', dx⟩ := Rc.yl (yl x H' hy)
      refine ⟨⟨B.H0, F1, B.M⟩, pa, τ ++ us.map some, F', ρc, θ ++ c.ks.map Tk.sl, _, items[i], R', by omega, dx, hq, fun ρ2 σ2 h2 l3 l4 _ R2 => ?_⟩
      refine ⟨⟨B.H0, F1, B.M⟩, pa, τ ++ us.map some, F', ρ2, θ ++ c.ks.map Tk.sl, _, R2, by omega, h2, ?_⟩
      have e0 : σ2.length = σ0.length := by omega
      rw [e0]
      exact ⟨fun σ' ρ' H2 F2 a b c R3 => ⟨ρ', F2, R3, b, c, a⟩, fun σ' ρ' H2 F2 a b c R3 => q.nx σ' ρ' H2 F2 a b c (drop R3), fun σ' ρ' H2 F2 a b c R3 => ⟨ρ', F2, R3, b, c, a⟩, fun zs ws d pn v H' F' h R => q.rt zs ws d pn v H' F' h (R.rebase R1'), fun _ _ _ _ _ _ _ z => z.elim⟩
    · have e : i = items.length := by omega
      subst e
      rw [List.drop_length] at hq
      exact .inl ⟨(src.stop Hc Fc ds0 items Rc.sz Rc.f0 Rc.fh rd ef).1, q.nx σ ρc Hc Fc hq l1 l2 (drop Rc)⟩
def Tk.slot1? : Tk → Bool
  | .slot _ => true
  | _ => false
def forL (c : Sc) (items : List D) (g : (GW S)) (b : (DS S)) (E : (DE S)) : List D → (En S) → Prop
  | [], ρ => c.items ρ = some items ∧ E.nx ρ
  | d :: r, ρ => c.items ρ = some items ∧ g d ρ fun ρ1 => b { nx := forL c items g b E r, rt := E.rt, bk := E.nx, ct := forL c items g b E r } ρ1
def dForL (it : (IW S)) (g : (GW S)) (b : (DS S)) : (DS S) := fun E ρ => it ρ fun c ρ1 => (c.ks.any Tk.slot1? = false) ∧ gets (c.items ρ1) fun items => items.length ≤ sizeLine → forL c items g b E items ρ1
end
end Dk
namespace Dk
open PySem PySem.Spec PyProof.Rows L2
variable {S : Type} [StK S]
section
variable {X : Cx} {e a b c : Expr} {es : List Expr} {te : (DW S)} {ta : (AW S)} {pos p p2 : Pos} {k : Nat} {t u : (OW S)}
def tmps : List Tk → Option (List Rs)
  | [] => some []
  | .tmp r :: ks => (tmps ks).map (r :: ·)
  | _ :: _ => none
theorem tmps_eq : ∀ {ks : List Tk} {rs : List Rs}, tmps ks = some rs → ks = rs.map .tmp
  | [], rs, h => by cases h; rfl
  | .tmp r :: ks, rs, h => by
    obtain ⟨rs', h1, rfl⟩ := Option.map_eq_some_iff.mp h
    rw [tmps_eq h1]; rfl
  | .slot _ :: ks, rs, h => by cases h
  | .bt _ :: ks, rs, h => by cases h
def dPar2 (i j : Nat) (ta : (AW S)) : (DS S) := fun E ρ => ta ρ fun ks ρ1 => gets (tmps ks) fun rs => match rs with
  | [r1, r2] => E.nx { ρ1 with sl := (ρ1.sl.set i r1.sl).set j r2.sl }
  | _ => False
theorem par2_step {K : Fg} {i j : Nat} {Z : Ends} {σ : L2.St} {H : Hp} (hij : i ≠ j) (hi : i < σ.length) (hj : j < σ.length) (h : liftS K (dPar2 i j ta) Z σ H) : liftA K ta σ H fun vs H1 => ∃ v w, vs = [v, w] ∧ Z.nx ((σ.set i (some v)).set j (some w)) H1 ∧ ∀ q, H1 q = none → Z.nx ((σ.set i (some v)).set j (some w)) (upd H1 q (.tup [v, w])) := by
  obtain ⟨B, pa, τ, F, ρ, θ, E, R, hl, h, q⟩ := h
  refine ⟨B, pa, τ, F, ρ, θ, _, R, hl, h, fun ks ρ1 vs H1 F1 h1 l1 hk R1 _ => ?_⟩
  obtain ⟨rs, e1, h1⟩ := gets_elim h1
  have e2 := tmps_eq e1
  subst e2
  match rs, vs, h1, hk, R1 with
  | [r1, r2], [v, w], h1, _, R1 =>
    have R2 : Rel K B pa (σ ++ τ ++ [some v] ++ [some w]) H1 F1 (ρ1.sl ++ θ ++ [r1.sl] ++ [r2.sl]) ρ1.pn := by simpa [Tk.sl] using R1
    have fin : ∀ H2, Rel K B pa (σ ++ τ ++ [some v] ++ [some w]) H2 F1 (ρ1.sl ++ θ ++ [r1.sl] ++ [r2.sl]) ρ1.pn → Z.nx ((σ.set i (some v)).set j (some w)) H2 := fun H2 R2 => by
      have R3 := R2.move (i := j) (by simp; omega)
      rw [List.append_assoc σ, List.append_assoc ρ1.sl, List.set_append_left _ _ hj, List.set_append_left _ _ (by omega), ← List.append_assoc, ← List.append_assoc] at R3
      have R4 := R3.move (i := i) (by simp; omega)
      rw [List.set_append_left _ _ (by simpa using hi), List.set_append_left _ _ (by simp; omega), List.set_comm _ _ hij.symm, List.set_comm _ _ hij.symm] at R4
      exact q.nx _ { ρ1 with sl := (ρ1.sl.set i r1.sl).set j r2.sl } H2 F1 h1 (by simp) (by simpa using l1) R4
    exact ⟨v, w, rfl, fin H1 R2, fun q hq => fin _ (R2.grow (le_upd hq) (Le.refl _) (R2.fh.trans (le_upd hq)) (fun b u e => .inl e) (R2.sz.upT (by show 2 ≤ sizeLine; decide)))⟩
theorem cs_par2 (i j : Nat) {x y : Str} {px py pt : Pos} {kt k2 pt2} (hx0 : XO X k) (ha : CA (S := S) X [a, b] ta) (hij : i ≠ j := by decide) (hi : X.N[i]? = some x := by rfl) (hj : X.N[j]? = some y := by rfl)
    (hx : X.env.scope.names.lookup x = some .local := by rfl) (hy : X.env.scope.names.lookup y = some .local := by rfl)
    (hw : swappedStores [.Tuple [.Name x px, .Name y py] kt pt] (.Tuple [a, b] k2 pt2) X.env = pure (some [x, y]) := by rfl)
    (hs : swapsWithSole [.Tuple [.Name x px, .Name y py] kt pt] (.Tuple [a, b] k2 pt2) pos.line X.env = pure false := by rfl) :
    CS (S := S) X (.Assign [.Tuple [.Name x px, .Name y py] kt pt] (.Tuple [a, b] k2 pt2) pos) (dPar2 i j ta) := by
  refine ⟨fun pins s σ H Z I h => ?_⟩
  refine (ps_par hx0.calm hx0.nd hi hj hij hx hy ha hw hs).run pins s σ H Z I ?_
  obtain ⟨B, pa, τ, F, ρ, θ, P, R, hl, h, q⟩ := par2_step hij (by rw [I.len]; exact (List.getElem?_eq_some_iff.mp hi).1) (by rw [I.len]; exact (List.getElem?_eq_some_iff.mp hj).1) h
  refine ⟨B, pa, τ, F, ρ, θ, P, R, hl, h, fun ks ρ1 vs H1 F1 h1 l1 hk R1 s1 => ?_⟩
  obtain ⟨v, w, e, z, _⟩ := q ks ρ1 vs H1 F1 h1 l1 hk R1 s1
  exact ⟨v, w, e, z⟩
theorem cs_par2t (i j : Nat) {x y : Str} {px py pt : Pos} {kt k2 pt2} (hx0 : XO X k) (ha : CA (S := S) X [a, b] ta) (hij : i ≠ j := by decide) (hi : X.N[i]? = some x := by rfl) (hj : X.N[j]? = some y := by rfl)
    (hx : Loc X.env.scope x := by first | exact .inl rfl | exact .inr rfl) (hy : Loc X.env.scope y := by first | exact .inl rfl | exact .inr rfl)
    (hf : X.fn x = true ∨ X.env.scope.names.lookup x = some .local := by first | exact .inl rfl | exact .inr rfl) (hf2 : X.fn y = true ∨ X.env.scope.names.lookup y = some .local := by first | exact .inl rfl | exact .inr rfl)
    (hs : swapsWithSole [.Tuple [.Name x px, .Name y py] kt pt] (.Tuple [a, b] k2 pt2) pos.line X.env = pure false := by rfl) (hw : swappedStores [.Tuple [.Name x px, .Name y py] kt pt] (.Tuple [a, b] k2 pt2) X.env = pure none := by rfl) :
    CS (S := S) X (.Assign [.Tuple [.Name x px, .Name y py] kt pt] (.Tuple [a, b] k2 pt2) pos) (dPar2 i j ta) := by
  refine ⟨fun pins s σ H Z I h => ?_⟩
  refine (ps_asg (pe_tup ha) (pg_tup hx0.calm (pgs_cons (pg_name hx0.nd hi hx hf) (pgs_cons (pg_name hx0.nd hj hy hf2) pgs_nil))) hs hw).run pins s σ H Z I ?_
  obtain ⟨B, pa, τ, F, ρ, θ, P, R, hl, h, q⟩ := par2_step hij (by rw [I.len]; exact (List.getElem?_eq_some_iff.mp hi).1) (by rw [I.len]; exact (List.getElem?_eq_some_iff.mp hj).1) h
  refine ⟨B, pa, τ, F, ρ, θ, P, R, hl, h, fun ks ρ1 vs H1 F1 h1 l1 hk R1 s1 => ?_⟩
  obtain ⟨v, w, e, _, z⟩ := q ks ρ1 vs H1 F1 h1 l1 hk R1 s1
  subst e
  exact ⟨by show 2 ≤ sizeLine; decide, fun q hq => ⟨q, [v, w], rfl, .inl (.inl upd_same), rfl, v, [w], rfl, w, [], rfl, rfl, z q hq⟩⟩
def dPar3 (i j l : Nat) (ta : (AW S)) : (DS S) := fun E ρ => ta ρ fun ks ρ1 => gets (tmps ks) fun rs => match rs with
  | [r1, r2, r3] => E.nx { ρ1 with sl := ((ρ1.sl.set i r1.sl).set j r2.sl).set l r3.sl }
  | _ => False
def dAug (i : Nat) (f : Int → Int → Int) (t : (DW S)) : (DS S) := fun E ρ => gets (((ρ.sl[i]?).bind Sl.rd).bind D.int?) fun a => t ρ fun r ρ1 => gets (D.int? r.d) fun b => E.nx { ρ1 with sl := ρ1.sl.set i (.val (.int (f a b))) }
end
end Dk
namespace Dk
open PySem PySem.Spec PyProof.Rows L2
variable {S : Type} [StK S]
def own? (ρ : List Sl) (i : Nat) : Option (List D) := match ρ[i]? with
  | some (.own xs) => some xs
  | _ => none
theorem own?_some {ρ : List Sl} {i : Nat} {xs : List D} (h : own? ρ i = some xs) : ρ[i]? = some (.own xs) := by
  unfold own? at h
  split at h
  · cases h; assumption
  · cases h
section
variable {X : Cx} {e a b c : Expr} {es : List Expr} {te : (DW S)} {ta : (AW S)} {pos p p1 p2 : Pos} {k : Nat} {t u : (OW S)}
theorem own_at {K : Fg} {B : Bs} {pa : Option Addr} {σ : L2.St} {τ : List (Option V)} {H F : Hp} {ρ θ : List Sl} {pn : S} {i : Nat} {xs : List D} (R : Rel K B pa (σ ++ τ) H F (ρ ++ θ) pn) (hl : ρ.length = σ.length) (h : own? ρ i = some xs) :
    ∃ a vs, σ[i]? = some (some (.ref a)) ∧ (σ ++ τ)[i]? = some (some (.ref a)) ∧ (ρ ++ θ)[i]? = some (.own xs) ∧ H a = some (.lst vs) ∧ DRs K F xs vs ∧ i < σ.length := by
  have h := own?_some h
  have hi := (List.getElem?_eq_some_iff.mp h).1
  have hw : (ρ ++ θ)[i]? = some (.own xs) := by rw [List.getElem?_append_left hi]; exact h
  obtain ⟨o, h1, a, vs, e, h2, h3, _⟩ := R.sl i _ hw
  subst e
  exact ⟨a, vs, left_get (by omega) h1, h1, hw, h2, h3, by omega⟩
theorem Rel.writeS {K : Fg} {B : Bs} {pa : Option Addr} {σ : L2.St} {τ : List (Option V)} {H F : Hp} {ρ θ : List Sl} {pn : S} {i : Nat} {xs ys : List D} {a : Addr} {vs : List V} (R : Rel K B pa (σ ++ τ) H F (ρ ++ θ) pn) (hw : (ρ ++ θ)[i]? = some (.own xs)) (hz : (σ ++ τ)[i]? = some (some (.ref a)))
    (hi : i < ρ.length) (h : DRs K F ys vs) (hs : vs.length ≤ sizeLine) : Rel K B pa (σ ++ τ) (upd H a (.lst vs)) F (ρ.set i (.own ys) ++ θ) pn := by
  have R1 := R.write hw hz h hs
  rwa [List.set_append_left _ _ hi] at R1
def dAppend (i : Nat) (t : (OW S)) : (DW S) := fun ρ P => (own? ρ.sl i).isSome = true ∧ t ρ fun k ρ1 => gets k.valD fun d => gets (own? ρ1.sl i) fun xs => xs.length < sizeLine ∧ P (.val .none) { ρ1 with sl := ρ1.sl.set i (.own (xs ++ [d])) }
theorem ce_append (i : Nat) {x : Str} {apos : Pos} (ha : CO (S := S) X a t) (hN : X.N[i]? = some x := by rfl) (hv : Vis X.env.scope x := by first | exact Or.inl rfl | exact Or.inr (Or.inl rfl) | exact Or.inr (Or.inr rfl)) (hd : (x == ("__debug__" : Str)) = false := by decide) (hcd : (x == ("__classdict__" : Str)) = false := by decide)
    (hbase : attributeBase (.Name x p1) "append" X.env (eval (.Name x p1) X.env) = eval (.Name x p1) X.env := by rfl)
    (hfew : ((backTo pos (starEach [a] X.env)).all (fun x => !x.1) && (backToKw pos (keywordEach [] X.env)).all (fun x => x.1.isSome) && decide ([a].length + ([] : List Keyword).length + (if ([] : List Keyword).isEmpty then 0 else 1) < 30)) = true := by rfl)
    (hline : (apos.endLine == pos.line) = true := by rfl) (hs : starEach [a] X.env = (false, eval a X.env) :: starEach [] X.env := by rfl) (hplain : (backTo pos (starEach [] X.env)).any (·.1) = false := by rfl) :
    CE (S := S) X (.Call (.Attribute (.Name x p1) "append" apos) [a] [] pos) (dAppend i t) :=
  pe_mono (pe_bm PySem.F.plainAttrs_list PySem.F.slot_list_append PySem.F.type_list_append mt_append (pe_var hN hv hd hcd) (pa_cons ha pa_nil hs) hbase hfew hline hs hplain) fun σ H Q h => by
    obtain ⟨B, pa, τ, F, ρ, θ, P, R, hl, ⟨h0, h⟩, q⟩ := toE h
    obtain ⟨xs0, e0⟩ := Option.isSome_iff_exists.mp h0
    obtain ⟨a0, vs0, s0, _, _, s1, _⟩ := own_at R hl e0
    refine ⟨.ref a0, s0, .inl ⟨rfl, vs0, .inl (.inl s1)⟩, ?_⟩
    refine ⟨B, pa, τ, F, ρ, θ, _, R, hl, h, fun k ρ1 v H1 F1 h1 l1 R1 _ => ?_⟩
    have h1 : gets k.valD fun d => gets (own? ρ1.sl i) fun xs => xs.length < sizeLine ∧ P (.val .none) { ρ1 with sl := ρ1.sl.set i (.own (xs ++ [d])) } := h1
    obtain ⟨d, ek, h2⟩ := gets_elim h1
    clear h1
    have ek := valD_some ek
    subst ek
    obtain ⟨xs, ex, h3⟩ := gets_elim h2
    obtain ⟨hz, h1⟩ := h3
    obtain ⟨⟨v', e', hd⟩, _⟩ := Rel.last (s := .val d) R1
    cases e'
    obtain ⟨a1, vs, q0, q1, q2, q3, q4, q5⟩ := own_at R1.pop l1 ex
    rw [s0] at q0
    cases q0
    refine ⟨a0, vs, v, rfl, rfl, q3, by rw [q4.len]; exact hz, ?_⟩
    have R2 := R1.pop.writeS (ys := xs ++ [d]) (vs := vs ++ [v]) q2 q1 (by omega) (q4.append (.cons hd .nil)) (by simp [q4.len]; omega)
    exact q (.val .none) { ρ1 with sl := ρ1.sl.set i (.own (xs ++ [d])) } .non _ F1 h1 (by simpa using l1) (R2.pushVal (DR.non_.mpr rfl))
def dPop (i : Nat) : (DW S) := fun ρ P => gets (own? ρ.sl i) fun xs => gets (xs[xs.length - 1]?) fun d => P (.val d) { ρ with sl := ρ.sl.set i (.own xs.dropLast) }
theorem DRs.dropLast {K : Fg} {F : Hp} {ds : List D} {vs : List V} (h : DRs K F ds vs) : DRs K F ds.dropLast vs.dropLast := by
  rw [List.dropLast_eq_take, List.dropLast_eq_take, h.len]
  exact h.take _
def dSetIx (i : Nat) (ti : (OW S)) (te : (DW S)) : (DS S) := fun E ρ => te ρ fun r ρ1 => (own? ρ1.sl i).isSome = true ∧ ti ρ1 fun k ρ2 => gets ((k.rd ρ2).bind D.int?) fun z => gets (own? ρ2.sl i) fun xs => gets (ixN xs.length z) fun j => E.nx { ρ2 with sl := ρ2.sl.set i (.own (xs.set j r.d)) }
theorem cs_setIx (i : Nat) {x : Str} {b : Expr} (hb : CO (S := S) X b u) (he : CE (S := S) X e te) (hN : X.N[i]? = some x := by rfl) (hv : Vis X.env.scope x := by first | exact Or.inl rfl | exact Or.inr (Or.inl rfl) | exact Or.inr (Or.inr rfl)) (hd : (x == ("__debug__" : Str)) = false := by decide) (hcd : (x == ("__classdict__" : Str)) = false := by decide)
    (hA : ∀ v, assign (.Subscript (.Name x p1) b p2) X.env v = (do
      let ov ← holding [v] (eval (.Name x p1) X.env)
      let iv ← holding [v, ov] (eval b X.env)
      standAt p2
      holding [v, ov, iv] (setItem ov iv v)
      release [v, ov, iv] []) := by intro _; rfl)
    (hs : swapsWithSole [.Subscript (.Name x p1) b p2] e pos.line X.env = pure false := by rfl) (hw : swappedStores [.Subscript (.Name x p1) b p2] e X.env = pure none := by rfl) (hq : (assignEach [.Subscript (.Name x p1) b p2] X.env).map (·.2) = [assign (.Subscript (.Name x p1) b p2) X.env] := by rfl) :
    CS (S := S) X (.Assign [.Subscript (.Name x p1) b p2] e pos) (dSetIx i u te) :=
  ps_mono (ps_asg he (pg_sub (pe_var hN hv hd hcd) hb set_list hA) hs hw hq) fun Z σ H ⟨B, pa, τ, F, ρ, θ, E, R, hl, h, q⟩ =>
    ofE ⟨B, pa, τ, F, ρ, θ, _, R, hl, h, fun r ρ1 v H1 F1 h1 l1 R1 => by
      obtain ⟨F2, _, R2⟩ := freezeLast R1
      obtain ⟨h0, h1⟩ := h1
      obtain ⟨xs0, e0⟩ := Option.isSome_iff_exists.mp h0
      obtain ⟨a0, vs0, s0, _, _, s1, _⟩ := own_at R2.pop l1 e0
      refine ⟨.ref a0, s0, B, pa, τ ++ [some v], F2, ρ1, θ ++ [.val r.d], _, by simpa only [List.append_assoc] using R2, l1, h1, fun k ρ2 v2 H2 F3 h2 l2 R3 sk => ?_⟩
      obtain ⟨z, ez, h2⟩ := gets_elim h2
      obtain ⟨d0, f1, f2⟩ := Option.bind_eq_some_iff.mp ez
      have f3 := D.int?_some f2
      subst f3
      obtain ⟨xs, ex, h2⟩ := gets_elim h2
      obtain ⟨j, ej, h2⟩ := gets_elim h2
      have R4 : Rel X.K B pa (σ ++ τ ++ [some v] ++ [some v2]) H2 F3 (ρ2.sl ++ θ ++ [.val r.d] ++ [k.sl]) ρ2.pn := by simpa only [List.append_assoc] using R3
      have hτ : τ.length = θ.length := by have := R4.pop.pop.len; simp at this; omega
      have R5 : Rel X.K B pa (σ ++ (τ ++ [some v] ++ [some v2])) H2 F3 (ρ2.sl ++ (θ ++ [.val r.d] ++ [k.sl])) ρ2.pn := by simpa only [List.append_assoc] using R3
      have rd := read_at R5 l2 (τ ++ [some v]).length (app_last _ _) (getN (by simp [hτ])) sk f1
      obtain ⟨⟨v', e', hd⟩, _⟩ := Rel.last (s := .val r.d) R4.pop
      cases e'
      obtain ⟨a1, vs, q0, q1, q2, q3, q4, q5⟩ := own_at R4.pop.pop l2 ex
      rw [s0] at q0
      cases q0
      refine ⟨a0, vs, z, j, rfl, rd.int, q3, by rw [q4.len]; exact ej, ?_⟩
      have R6 := R4.pop.pop.writeS (ys := xs.set j r.d) (vs := vs.set j v) q2 q1 (by omega) (q4.set j hd) (by have := R4.sz.l q3; simpa using this)
      exact q.nx σ { ρ2 with sl := ρ2.sl.set i (.own (xs.set j r.d)) } _ F3 h2 rfl (by simpa using l2) R6⟩
end
end Dk
namespace Dk
open PySem PySem.Spec PyProof.Rows L2
variable {S : Type} [StK S]
structure FnG (P : Program) (w : World) (K : Fg) (mg : Str → Option Value) (base : Heap) (CX : CXT) (k : Nat) (f : Addr) (fd : FuncData) (ps : List Str) (sp : Sp) : Prop where
  len : ∀ vs H Q E, sp vs H Q E → vs.length = ps.length
  run : ∀ (A : Around) (outer : List Env) (s : Shared) (H : Hp) (args : Args) (us : List Value) (vs : List V) (Q : VK) (E : XK), Room k A → A.guards = some [] → Env0 P w K mg base A outer s H → BindsTo s fd args (ps.zip us) → Vals vs us → sp vs H Q E →
    codeAny (model P w) A (.call (.ref f) args) (CR CX outer P w H s Q E) s
theorem FnG.mono {P : Program} {w : World} {K : Fg} {mg : Str → Option Value} {base : Heap} {CX : CXT} {j k : Nat} {f : Addr} {fd : FuncData} {ps : List Str} {sp : Sp} (F : FnG P w K mg base CX j f fd ps sp) (h : j ≤ k) :
    FnG P w K mg base CX k f fd ps sp := ⟨F.len, fun A outer s H args us vs Q E hr => F.run A outer s H args us vs Q E (hr.mono h)⟩
section
variable {X : Cx} {CX : CXT} {k : Nat} {f : Addr} {fd : FuncData} {ps : List Str} {sp : Sp} {dvs : List V} {ds : List Value} {E : XK} {x : Str} {p pos : Pos} {e : Expr} {es : List Expr} {t : TA}
theorem run_fng {pins : List (Addr × Obj)} {σ : L2.St} {H : Hp} {s : Shared} {Q : VK} {us : List Value} {vs : List V} (F : FnG X.prog X.w X.K X.mg X.base CX k f fd ps sp) (hr : Room k X.A) (hg : X.A.guards = some []) (hb : Binds X.K fd ps ds) (hd : Vals dvs ds) (hx : Passes CX X E)
    (I : L2.Inv X pins σ H s) (r : Vals vs us) (h : sp (vs ++ dvs) H Q E) : wpAny (model X.prog X.w) X.A (call (.ref f) us) (EP X pins σ Q) X.xe s := by
  have r2 : Vals (vs ++ dvs) (us ++ ds) := r.append hd
  have hl : (us ++ ds).length = ps.length := by rw [← r2.length]; exact F.len _ _ _ _ h
  refine wpAny_call (codeAny_mono (F.run X.A X.stack s H ⟨us, []⟩ (us ++ ds) (vs ++ dvs) Q E hr hg I.env0 (hb s us I.kIn hl) r2 h) fun r s' hq => ?_)
  cases r with
  | error e => exact hx pins σ H s e s' I hq
  | ok fl =>
    cases fl with
    | ret u => exact I.after hq
    | next => exact False.elim hq
    | brk => exact False.elim hq
    | cont => exact False.elim hq
theorem pe_callG (F : FnG X.prog X.w X.K X.mg X.base CX k f fd ps sp) (hr : Room k X.A) (hgd : X.A.guards = some []) (hg : Gl X x) (hm : X.mg x = some (.ref f)) (hk : PySem.W.keepIn X.K (.ref f) = true) (hb : Binds X.K fd ps ds) (hd : Vals dvs ds) (hx : Passes CX X E)
    (ha : PA X (e :: es) t) (hdb : (x == ("__debug__" : Str)) = false := by decide) (he : starEach (e :: es) X.env = (false, eval e X.env) :: starEach es X.env := by rfl) (hpl : (backTo pos (starEach es X.env)).any (·.1) = false := by rfl) :
    PE X (.Call (.Name x p) (e :: es) [] pos) (tCall sp dvs E t) := by
  refine ⟨fun pins s σ H Q I h => ?_⟩
  refine wpAny_Call_Name_kw (ld_glob I hg hm ?_ hdb)
  refine PySem.W.callWith_K (h₀ := X.base) I.ok.mod.kin hk (thn (ha.run pos pins s σ H _ I h) fun us s1 ⟨vs, H1, I1, r, q⟩ => ⟨I1.kIn, ?_⟩) he hpl
  exact run_fng F hr hgd hb hd hx I1 r q
end
theorem fng_of {CX : CXT} {P : Program} {w : World} {K : Fg} {mg : Str → Option Value} {base : Heap} {k : Nat} {f : Addr} {name qual : Str} {params : Arguments} {body : List Stmt} {scope : Scope} {dV kV doc pm cdv ct oc : Value} {an od : Option Addr}
    {osl : Array (Option Value)} {N ps : List Str} {sp : Sp} (lk : K.lookup f = some ⟨oc, od, .func (PySem.W.fnOf name qual params body scope dV kV doc pm an cdv ct), osl⟩) (hcd : PySem.W.codeIn K cdv qual = true) (S : FnScope N ps scope)
    (len : ∀ vs H Q E, sp vs H Q E → vs.length = ps.length)
    (hbody : ∀ (A : Around) (outer : List Env) (s : Shared) (H : Hp) (vs : List V) (Q : VK) (E : XK), Room k (A.deeper (envOfC qual scope s.heap.objs.size f cdv)) → (A.deeper (envOfC qual scope s.heap.objs.size f cdv)).guards = some [] → sp vs H Q E →
      ∃ t, PSs (cxOf CX P w K mg base N qual scope f cdv A outer s H E) body t ∧ t { nx := fun _ H' => Q .non H', rt := Q } (L2.start N vs) H) :
    FnG P w K mg base CX (k + 1) f (PySem.W.fnOf name qual params body scope dV kV doc pm an cdv ct) ps sp := by
  refine ⟨len, fun A outer s H args us vs Q E hr hgd e0 hb r hsp => ?_⟩
  have hl := len _ _ _ _ hsp
  have KX : K.In s.heap := e0.mod.kin.keeps fun b o e => (e0.bs b o e).1
  have lim : s.heap.NoLimit := e0.mod.nolimit.keeps fun b o e => (e0.bs b o e).1
  have hkind : ∀ y ∈ ps.zip us, scope.names.lookup y.1 = some .local ∨ (scope.names.lookup y.1 = some .cell ∧ ((cellsFrom (s.heap.objs.size + 1) scope.names []).lookup y.1).isSome = true) := fun ⟨n, v⟩ hy => by
    rcases S.par n (List.of_mem_zip hy).1 with q | q
    · exact .inl q
    · exact .inr ⟨q, PySem.W.cellsFrom_some _ _ _ (.inl q)⟩
  refine codeAny_call_function hr.depth (KX _ _ lk) rfl S.co S.gen rfl (PySem.W.codeRec_of KX hcd) (hb _ _ _ _ ?_)
  refine wpAny_newFunctionEnv_cells S.kind hkind fun env he s1 x => ?_
  subst he
  refine ⟨lim.keeps x.toInCall.keep, codeAny_func ?_⟩
  obtain ⟨t, ht, hq⟩ := hbody A outer s H vs Q E (hr.deeper _) hgd hsp
  have I : L2.Inv (cxOf CX P w K mg base N qual scope f cdv A outer s H E) [] (L2.start N vs) H s1 := inv_start S hr.hd e0 hl r x
  refine wpAny_mono (ht.run [] s1 (L2.start N vs) H _ I hq) (fun fl s' hs => ?_) fun e s' hs => hs
  have fin : ∀ {σ' : L2.St} {H' : Hp} {v : V} {u : Value}, L2.Inv (cxOf CX P w K mg base N qual scope f cdv A outer s H E) [] σ' H' s' → RelV v u → Q v H' → L2.CE outer P w H s Q u s' :=
    fun {σ' H' v u} J rv q => ⟨v, H', J.os, J.bare, J.base, J.hok, rv, q⟩
  cases fl with
  | ret u =>
    obtain ⟨v, σ', H', J, rv, q⟩ := hs
    exact fin J rv q
  | next =>
    obtain ⟨σ', H', J, q⟩ := hs
    exact fin (v := V.non) (u := Value.none) J rfl q
  | brk =>
    obtain ⟨_, _, _, q⟩ := hs
    exact False.elim q
  | cont =>
    obtain ⟨_, _, _, q⟩ := hs
    exact False.elim q
inductive Arg where
  | val (d : D) | bor (xs : List D) | pen | scr (ns : List Int) | ref (a : Addr)
abbrev DSp (S : Type := Option Pen) := List Arg → S → (D → S → Prop) → Prop
def ArgR (K : Fg) (H F : Hp) (pa : Option Addr) (T : Addr → Prop) : Arg → V → Prop
  | .val d, v => DR K F d v
  | .bor xs, v => ∃ a vs, v = .ref a ∧ H a = some (.lst vs) ∧ DRs K F xs vs ∧ ¬ T a
  | .pen, v => ∃ a, pa = some a ∧ v = .ref a
  | .scr ns, v => ∃ a, v = .ref a ∧ ScrR K H T a ns
  | .ref a, v => v = .ref a
def ArgsR (K : Fg) (H F : Hp) (pa : Option Addr) (T : Addr → Prop) : List Arg → List V → Prop
  | [], vs => vs = []
  | a :: as, vs => ∃ v r, vs = v :: r ∧ ArgR K H F pa T a v ∧ ArgsR K H F pa T as r
theorem ArgsR.len {K : Fg} {H F : Hp} {pa : Option Addr} {T : Addr → Prop} : ∀ {as : List Arg} {vs : List V}, ArgsR K H F pa T as vs → vs.length = as.length
  | [], vs, h => by rw [show vs = [] from h]; rfl
  | a :: as, vs, h => by
    obtain ⟨v, r, rfl, _, h⟩ := h
    rw [List.length_cons, List.length_cons, ArgsR.len h]
def spOf (K : Fg) (n : Nat) (dsp : DSp S) : Sp := fun vs H Q _ => ∃ F pa T as s P, Szs H ∧ Le F H ∧ ArgsR K H F pa T as vs ∧ StK.R K pa H F s T ∧ (∀ b, T b → H b ≠ none ∧ F b = none) ∧ as.length = n ∧ dsp as s P ∧
  ∀ d s' v H' F' T', P d s' → Szs H' → Le F F' → Le F' H' → (∀ b o, F' b = some o → F b = some o ∨ H b = none ∨ T b) → (∀ b o, H b = some o → ¬ T b → H' b = some o) → StK.R K pa H' F' s' T' → (∀ b, T' b → (T b ∨ H b = none) ∧ H' b ≠ none ∧ F' b = none) → (∀ b, T b → H' b ≠ none) → DR K F' d v → Q v H'
abbrev FnD (P : Program) (w : World) (K : Fg) (mg : Str → Option Value) (base : Heap) (k : Nat) (f : Addr) (fd : FuncData) (ps : List Str) (dsp : DSp S) : Prop := FnG P w K mg base CX0 k f fd ps (spOf K ps.length dsp)
theorem FnD.none {P : Program} {w : World} {K : Fg} {mg : Str → Option Value} {base : Heap} {k : Nat} {f : Addr} {fd : FuncData} {ps : List Str} {dsp : DSp S} (h : ∀ as pn P, ¬ dsp as pn P) : FnD P w K mg base k f fd ps dsp :=
  ⟨fun vs H Q E ⟨F, pa, T, as, pn, P, _, _, _, _, _, _, q, _⟩ => (h _ _ _ q).elim, fun A outer s H args us vs Q E _ _ _ _ _ ⟨F, pa, T, as, pn, P, _, _, _, _, _, _, q, _⟩ => (h _ _ _ q).elim⟩
def Arg.sl : Arg → Sl
  | .val d => .val d
  | .bor xs => .bor xs
  | .pen => .pen
  | .scr ns => .scr ns
  | .ref a => .ref a
def startD (n : Nat) (as : List Arg) : List Sl := as.map Arg.sl ++ List.replicate (n - as.length) .un
theorem argR_sl {K : Fg} {H F : Hp} {pa : Option Addr} {T : Addr → Prop} {a : Arg} {v : V} (h : ArgR K H F pa T a v) : SlotR K ⟨H, F, T⟩ pa H F a.sl (some v) := by
  cases a with
  | val d => exact ⟨v, rfl, h⟩
  | bor xs =>
    obtain ⟨a, vs, rfl, h1, h2, h3⟩ := h
    exact ⟨a, vs, rfl, h1, h2, h3⟩
  | pen =>
    obtain ⟨a, h1, rfl⟩ := h
    exact ⟨a, h1, rfl⟩
  | scr ns =>
    obtain ⟨a, rfl, h1⟩ := h
    exact ⟨a, rfl, h1⟩
  | ref a =>
    have h : v = .ref a := h
    subst h
    exact rfl
theorem ArgsR.get {K : Fg} {H F : Hp} {pa : Option Addr} {T : Addr → Prop} : ∀ {as : List Arg} {vs : List V} {i : Nat} {a : Arg}, ArgsR K H F pa T as vs → as[i]? = some a → ∃ v, vs[i]? = some v ∧ ArgR K H F pa T a v
  | [], vs, i, a, _, e => by simp at e
  | b :: as, vs, 0, a, h, e => by
    obtain ⟨v, r, rfl, h1, _⟩ := h
    simp at e
    subst e
    exact ⟨v, rfl, h1⟩
  | b :: as, vs, i + 1, a, h, e => by
    obtain ⟨v, r, rfl, _, h2⟩ := h
    exact ArgsR.get (i := i) h2 (by simpa using e)
theorem rel_startT {K : Fg} {H F : Hp} {pa : Option Addr} {T : Addr → Prop} {as : List Arg} {vs : List V} {pn : S} {N : List Str} (hz : Szs H) (hF : Le F H) (h : ArgsR K H F pa T as vs) (hp : StK.R K pa H F pn T) (hpl : ∀ b, T b → H b ≠ none ∧ F b = none) (ht : ∀ r, StK.tag pn = some r → TagOk r ⟨H, F, T⟩ pa F) : Rel K ⟨H, F, T⟩ pa (L2.start N vs) H F (startD N.length as) pn := by
  have hl := h.len
  have noown : ∀ (i : Nat) (xs : List D), (startD N.length as)[i]? ≠ some (.own xs) := fun i xs e1 => by
    unfold startD at e1
    by_cases hi : i < as.length
    · rw [List.getElem?_append_left (by simpa using hi), List.getElem?_map] at e1
      obtain ⟨a, _, h2⟩ := Option.map_eq_some_iff.mp e1
      cases a <;> cases h2
    · rw [List.getElem?_append_right (by simp; omega), List.getElem?_replicate] at e1
      split at e1 <;> cases e1
  refine ⟨by simp [L2.start, startD, hl], hF, fun b o e _ => e, Le.refl _, fun b o e => .inl e, fun i s e => ?_, fun i j xs ys a e1 _ _ _ => absurd e1 (noown i xs), ⟨T, hp, fun b hb => (hpl b hb).1, fun b hb => (hpl b hb).2, fun b hb => .inr hb, fun i xs a e1 _ => absurd e1 (noown i xs)⟩, fun b hb => (hpl b hb).1, hz, ht⟩
  unfold startD at e
  by_cases hi : i < as.length
  · rw [List.getElem?_append_left (by simpa using hi), List.getElem?_map] at e
    obtain ⟨a, h1, rfl⟩ := Option.map_eq_some_iff.mp e
    obtain ⟨v, h2, h3⟩ := h.get h1
    refine ⟨some v, ?_, argR_sl h3⟩
    unfold L2.start
    rw [List.getElem?_append_left (by simp; omega), List.getElem?_map, h2]
    rfl
  · rw [List.getElem?_append_right (by simp; omega), List.getElem?_replicate] at e
    split at e
    · cases e
      rename_i hlt
      refine ⟨none, ?_, trivial⟩
      unfold L2.start
      rw [List.getElem?_append_right (by simp; omega), List.getElem?_replicate, if_pos (by simp at hlt ⊢; omega)]
    · cases e
theorem rel_start [NoTag S] {K : Fg} {H F : Hp} {pa : Option Addr} {T : Addr → Prop} {as : List Arg} {vs : List V} {pn : S} {N : List Str} (hz : Szs H) (hF : Le F H) (h : ArgsR K H F pa T as vs) (hp : StK.R K pa H F pn T) (hpl : ∀ b, T b → H b ≠ none ∧ F b = none) : Rel K ⟨H, F, T⟩ pa (L2.start N vs) H F (startD N.length as) pn :=
  rel_startT hz hF h hp hpl fun r e => by rw [NoTag.no] at e; cases e
abbrev cx0 (P : Program) (w : World) (K : Fg) (mg : Str → Option Value) (base : Heap) (N : List Str) (qual : Str) (scope : Scope) (f : Addr) (cd : Value) (A : Around) (outer : List Env) (s : Shared) (H : Hp) (E : XK) : Cx := (cxOf CX0 P w K mg base N qual scope f cd A outer s H E).nox
theorem rel_end {K : Fg} {H F : Hp} {pa : Option Addr} {T : Addr → Prop} {P : D → S → Prop} {Q : VK} {zs : List (Option V)} {ws : List Sl} {d : D} {pn : S} {v : V} {H' F' : Hp}
    (q : ∀ d s' v H' F' T', P d s' → Szs H' → Le F F' → Le F' H' → (∀ b o, F' b = some o → F b = some o ∨ H b = none ∨ T b) → (∀ b o, H b = some o → ¬ T b → H' b = some o) → StK.R K pa H' F' s' T' → (∀ b, T' b → (T b ∨ H b = none) ∧ H' b ≠ none ∧ F' b = none) → (∀ b, T b → H' b ≠ none) → DR K F' d v → Q v H')
    (h : P d pn) (R : Rel K ⟨H, F, T⟩ pa (zs ++ [some v]) H' F' (ws ++ [.val d]) pn) : Q v H' := by
  obtain ⟨⟨v', e', hd⟩, _⟩ := Rel.last (s := .val d) R
  cases e'
  obtain ⟨T', t⟩ := R.st
  exact q d pn v H' F' T' h R.sz R.f0 R.fh R.fr R.base t.r (fun b hb => ⟨(t.bs b hb).symm, t.hn b hb, t.fn b hb⟩) R.pal hd
def slArg : Sl → Option Arg
  | .val d => some (.val d)
  | .own xs => some (.bor xs)
  | .bor xs => some (.bor xs)
  | .pen => some .pen
  | .scr ns => some (.scr ns)
  | .ref a => some (.ref a)
  | .un => none
def toArg (ρ : En S) : Tk → Option Arg
  | .tmp (.val d) => some (.val d)
  | .slot i => (ρ.sl[i]?).bind slArg
  | .fb b => some (.ref b)
  | _ => none
def toArgs (ρ : En S) : List Tk → Option (List Arg)
  | [] => some []
  | k :: ks => (toArg ρ k).bind fun a => (toArgs ρ ks).bind fun as => some (a :: as)
def toArgP (ρ : En S) : Tk → Option Arg
  | .fb b => (StK.look ρ.pn b).map .bor
  | .slot i => match ρ.sl[i]? with
    | some (.ref b) => (StK.look ρ.pn b).map .bor
    | _ => toArg ρ (.slot i)
  | k => toArg ρ k
def toArgsP (ρ : En S) : List Tk → Option (List Arg)
  | [] => some []
  | k :: ks => (toArgP ρ k).bind fun a => (toArgsP ρ ks).bind fun as => some (a :: as)
def dCall (n : Nat) (dsp : DSp S) (ta : AW S) : DW S := fun ρ P => ta ρ fun ks ρ1 => gets (toArgs ρ1 ks) fun as => as.length = n ∧ dsp as ρ1.pn fun d pn' => P (.val d) ⟨ρ1.sl, pn'⟩
def dCallP [PenK S] (n : Nat) (dsp : DSp) (ta : AW S) : DW S := fun ρ P => ta ρ fun ks ρ1 => gets (toArgsP ρ1 ks) fun as => as.length = n ∧ dsp as (PenK.get ρ1.pn) fun d pn' => P (.val d) ⟨ρ1.sl, PenK.set pn' ρ1.pn⟩
end Dk
namespace Dk
open PySem PySem.Spec PyProof.Rows L2
variable {S : Type} [StK S]
theorem Rel.notT {K : Fg} {B : Bs} {pa : Option Addr} {zs : List (Option V)} {H F : Hp} {ws : List Sl} {pn : S} {T : Addr → Prop} (t : StR K B pa zs H F ws pn T) {a : Addr} (h : B.H0 a ≠ none) (n : ¬ B.M a) : ¬ T a := fun z => (t.bs a z).elim h n
theorem Rel.scrR {K : Fg} {B : Bs} {pa : Option Addr} {zs : List (Option V)} {H F : Hp} {ws : List Sl} {pn : S} (R : Rel K B pa zs H F ws pn) {T : Addr → Prop} (t : StR K B pa zs H F ws pn T) {a : Addr} {ns : List Int} (h : ScrR K B.H0 B.M a ns) : ScrR K H T a ns := by
  rcases h with ⟨h, n⟩ | h
  · have hne : B.H0 a ≠ none := by
      rcases h with h | ⟨o, h⟩ <;> (rw [h]; exact nofun)
    refine .inl ⟨?_, Rel.notT t hne n⟩
    rcases h with h | ⟨o, h⟩
    · exact .inl (R.base _ _ h n)
    · exact .inr ⟨o, R.base _ _ h n⟩
  · exact .inr h
theorem Rel.scrH {K : Fg} {B : Bs} {pa : Option Addr} {zs : List (Option V)} {H F : Hp} {ws : List Sl} {pn : S} (R : Rel K B pa zs H F ws pn) {a : Addr} {ns : List Int} (h : ScrR K B.H0 B.M a ns) : SqL K H a (ns.map .int) := by
  obtain ⟨T, t⟩ := R.st
  exact (R.scrR t h).sq
theorem arg_at {K : Fg} {B : Bs} {pa : Option Addr} {σ : L2.St} {τ : List (Option V)} {H F : Hp} {ρ : En S} {θ : List Sl} {k : Tk} {v : V} {a : Arg} (R : Rel K B pa (σ ++ τ) H F (ρ.sl ++ θ) ρ.pn) (hl : ρ.sl.length = σ.length) (c : Nat)
    (hz : τ[c]? = some (some v)) (hw : θ[c]? = some k.sl) (hs : ∀ i, k = .slot i → σ[i]? = some (some v)) (h : toArg ρ k = some a) {T : Addr → Prop} (t : StR K B pa (σ ++ τ) H F (ρ.sl ++ θ) ρ.pn T) : ArgR K H F pa T a v := by
  cases k with
  | bt xs => cases h
  | fb b =>
    cases h
    have hw : θ[c]? = some (.ref b) := hw
    obtain ⟨o, h1, h2⟩ := R.sl (ρ.sl.length + c) (.ref b) (by rw [List.getElem?_append_right (by omega)]; simpa using hw)
    have h2 : o = some (.ref b) := h2
    subst h2
    rw [List.getElem?_append_right (by omega), hl] at h1
    simp at h1
    rw [hz] at h1
    cases h1
    exact rfl
  | tmp r =>
    cases r with
    | own _ => cases h
    | val d =>
      cases h
      replace hw : θ[c]? = some (.val d) := hw
      obtain ⟨o, h1, u, h2, h3⟩ := R.sl (ρ.sl.length + c) (.val d) (by rw [List.getElem?_append_right (by omega)]; simpa using hw)
      rw [List.getElem?_append_right (by omega), hl] at h1
      simp at h1
      rw [hz] at h1
      cases h1
      cases h2
      exact h3
  | slot i =>
    have hv := hs i rfl
    have e : ∀ s, ρ.sl[i]? = some s → SlotR K B pa H F s (some v) := fun s q => by
      have hi := (List.getElem?_eq_some_iff.mp q).1
      obtain ⟨o, h1, h2⟩ := R.sl i s (by rw [List.getElem?_append_left hi]; exact q)
      rw [List.getElem?_append_left (by omega), hv] at h1
      cases h1
      exact h2
    have h : (ρ.sl[i]?).bind slArg = some a := h
    cases q : ρ.sl[i]? with
    | none => rw [q] at h; cases h
    | some s =>
      rw [q] at h
      have := e s q
      cases s with
      | un => cases h
      | val d =>
        cases h
        obtain ⟨u, h1, h2⟩ := this
        cases h1
        exact h2
      | own xs =>
        cases h
        obtain ⟨a, vs, h1, h2, h3, h4, h5⟩ := this
        cases h1
        refine ⟨a, vs, rfl, h2, h3, t.ap i xs a ?_ ?_⟩
        · rw [List.getElem?_append_left (List.getElem?_eq_some_iff.mp q).1]; exact q
        · have hi := (List.getElem?_eq_some_iff.mp q).1
          rw [List.getElem?_append_left (by omega)]; exact hv
      | bor xs =>
        cases h
        obtain ⟨a, vs, h1, h2, h3, h4⟩ := this
        cases h1
        exact ⟨a, vs, rfl, R.base _ _ h2 h4, h3, Rel.notT t (by rw [h2]; exact nofun) h4⟩
      | pen =>
        cases h
        obtain ⟨a, h1, h2⟩ := this
        cases h2
        exact ⟨a, h1, rfl⟩
      | scr ns =>
        cases h
        obtain ⟨a, h1, h2⟩ := this
        cases h1
        exact ⟨a, rfl, R.scrR t h2⟩
      | ref a =>
        cases h
        exact Option.some.inj this
theorem args_all {K : Fg} {B : Bs} {pa : Option Addr} {σ : L2.St} {H F : Hp} {ρ : En S} {T : Addr → Prop} (hl : ρ.sl.length = σ.length) : ∀ (ks : List Tk) (vs : List V) (τ : List (Option V)) (θ : List Sl) (as : List Arg),
    τ.length = θ.length → ks.length = vs.length → Rel K B pa (σ ++ (τ ++ vs.map some)) H F (ρ.sl ++ (θ ++ ks.map Tk.sl)) ρ.pn → StR K B pa (σ ++ (τ ++ vs.map some)) H F (ρ.sl ++ (θ ++ ks.map Tk.sl)) ρ.pn T → (∀ (j : Nat) i v, ks[j]? = some (.slot i) → vs[j]? = some v → σ[i]? = some (some v)) → toArgs ρ ks = some as → ArgsR K H F pa T as vs := by
  intro ks
  induction ks with
  | nil =>
    intro vs τ θ as _ hk _ _ _ h
    cases vs with
    | nil => cases h; rfl
    | cons _ _ => simp at hk
  | cons k ks ih =>
    intro vs τ θ as ht hk R t s h
    cases vs with
    | nil => simp at hk
    | cons v vs =>
      have h : ((toArg ρ k).bind fun a => (toArgs ρ ks).bind fun as => some (a :: as)) = some as := h
      obtain ⟨a, e1, h⟩ := Option.bind_eq_some_iff.mp h
      obtain ⟨as', e2, h⟩ := Option.bind_eq_some_iff.mp h
      cases h
      refine ⟨v, vs, rfl, ?_, ?_⟩
      · exact arg_at R hl τ.length (by simp) (by rw [ht]; simp) (fun i e => s 0 i v (by simp [e]) rfl) e1 t
      · refine ih vs (τ ++ [some v]) (θ ++ [k.sl]) as' (by simp [ht]) (by simpa using hk) (by simpa only [List.append_assoc, List.map_cons, List.singleton_append] using R) (by simpa only [List.append_assoc, List.map_cons, List.singleton_append] using t) (fun j i u h1 h2 => s (j + 1) i u (by simpa using h1) (by simpa using h2)) e2
theorem Rel.popsT {K : Fg} {B : Bs} {pa : Option Addr} {zs os : List (Option V)} {H F : Hp} {ws ss : List Sl} {pn : S} {T : Addr → Prop} (hl : zs.length = ws.length) (t : StR K B pa (zs ++ os) H F (ws ++ ss) pn T) : StR K B pa zs H F ws pn T :=
  ⟨t.r, t.hn, t.fn, t.bs, fun i xs a e1 e2 => t.ap i xs a (by rw [List.getElem?_append_left (List.getElem?_eq_some_iff.mp e1).1]; exact e1) (by rw [List.getElem?_append_left (List.getElem?_eq_some_iff.mp e2).1]; exact e2)⟩
section
variable {X : Cx} {k : Nat} {f : Addr} {fd : FuncData} {ps : List Str} {dsp : DSp S} {x : Str} {p pos : Pos} {e : Expr} {es : List Expr} {ta : AW S}
theorem call_step [NoTag S] {K : Fg} {n : Nat} {dsp : DSp S} {ta : AW S} {σ : L2.St} {H : Hp} {Q : VK} (h : liftO K (tmpD (dCall n dsp ta)) σ H Q) : liftA K ta σ H fun vs H1 => spOf K n dsp vs H1 Q E0 := by
  obtain ⟨B, pa, τ, F, ρ, θ, P, R, hl, h, q⟩ := toE h
  refine ⟨B, pa, τ, F, ρ, θ, _, R, hl, h, fun ks ρ1 vs H1 F1 h1 hl1 hk R1 s1 => ?_⟩
  obtain ⟨as, e1, hn, h1⟩ := gets_elim h1
  have R2 : Rel K B pa (σ ++ τ) H1 F1 (ρ1.sl ++ θ) ρ1.pn := R1.pops (by simp [hk])
  have hτ : τ.length = θ.length := by have := R2.len; simp at this; omega
  obtain ⟨T, t⟩ := R1.st
  have t2 := Rel.popsT R2.len t
  refine ⟨F1, pa, T, as, ρ1.pn, _, R2.sz, R2.fh, args_all hl1 ks vs τ θ as hτ hk (by simpa only [List.append_assoc] using R1) (by simpa only [List.append_assoc] using t) s1 e1, t.r, fun b hb => ⟨t.hn b hb, t.fn b hb⟩, hn, h1, fun d pn' v H' F' T' hp hz hF hFH hfr hH hr hT hpl hv => ?_⟩
  have R3 : Rel K B pa (σ ++ τ) H' F' (ρ1.sl ++ θ) pn' := R2.called t2 hH hF hFH hfr hr (fun b hb => (hT b hb).1) (fun b hb => (hT b hb).2.1) (fun b hb => (hT b hb).2.2) (fun b hb => by
    by_cases hTb : T b
    · exact hpl b hTb
    · obtain ⟨u, e⟩ := Option.ne_none_iff_exists'.mp hb
      rw [hH b u e hTb]
      exact nofun) hz (by rw [NoTag.no, NoTag.no])
  exact q (.val d) ⟨ρ1.sl, pn'⟩ v H' F' hp hl1 (R3.pushVal hv)
theorem ce_call [NoTag S] (F : FnD X.prog X.w X.K X.mg X.base k f fd ps dsp) (O : XO X k) (hm : X.mg x = some (.ref f)) (hk : PySem.W.keepIn X.K (.ref f) = true) (hb : Binds X.K fd ps []) (ha : CA X (e :: es) ta) (hg : Gl X x := by rfl) (hdb : (x == ("__debug__" : Str)) = false := by decide)
    (he : starEach (e :: es) X.env = (false, eval e X.env) :: starEach es X.env := by rfl) (hpl : (backTo pos (starEach es X.env)).any (·.1) = false := by rfl) : CE (S := S) X (.Call (.Name x p) (e :: es) [] pos) (dCall ps.length dsp ta) :=
  pe_mono (pe_callG F O.room O.gd hg hm hk hb .nil pass0 ha hdb he hpl) fun _ _ _ h => by
    have := call_step h
    simp only [tCall, List.append_nil]
    exact this
end
section
variable {S : Type} [PenK S] {X : Cx} {k : Nat} {f : Addr} {fd : FuncData} {ps : List Str} {dsp : DSp} {x : Str} {p pos : Pos} {e : Expr} {es : List Expr} {ta : AW S}
end
end Dk
namespace PySem
open Sem (wp)
abbrev IsZipS (h : Heap) (z TI TO : Addr) (f0 : Value) : Prop := h.get? z = some { cls := .type "zip", data := .fields #[f0, .bool false, .bool true, .ref TI, .ref TO] }
section
variable {prog : Program} {w : World} {A : Around} {E : Value → Shared → Prop} {s : Shared} {z TI TO i1 i2 it : Addr} {fp fp1 fp2 : List Addr} {n n1 n2 i : Nat} {P P1 P2 : Nat → Value → Prop} {St St1 St2 : Nat → Heap → Prop} {a1 a2 : Value}
theorem noe_item {Q : Option Value → Shared → Prop} (D : Draws prog w A it fp n P St) (hi : i < n) (st : St i s.heap) (hQ : ∀ x h' tk, P i x → St (i + 1) h' → Heap.SameBut it s.heap h' → Q (some x) { s with heap := h', toks := tk }) :
    wpAny (model prog w) A (Builtin.SmallTypes.nextOrEnd (.ref it)) Q E s := by
  unfold Builtin.SmallTypes.nextOrEnd
  exact wpAny_bind (wpAny_attempt (D.item i _ _ _ hi st fun x h' tk hx hs hb => wpAny_pure (hQ x h' tk hx hs hb)))
theorem noe_end {Q : Option Value → Shared → Prop} (D : Draws prog w A it fp n P St) (st : St n s.heap) (hQ : ∀ h', Heap.ExtBut it s.heap h' → Q none { s with heap := h' }) :
    wpAny (model prog w) A (Builtin.SmallTypes.nextOrEnd (.ref it)) Q E s := by
  unfold Builtin.SmallTypes.nextOrEnd
  refine wpAny_bind (wpAny_attempt (D.done s _ _ st fun h' e hb he => ?_))
  obtain ⟨o, ho, hc⟩ := he
  refine wpAny_bind (wpAny_isInstance (T := "StopIteration") (b := true) ⟨o, ho, hc⟩ isSubtype_stop ?_)
  exact wpAny_pure (hQ _ hb)
theorem zipS_next_item {Q : Value → Shared → Prop} (S : ZipSep2 z TI TO i1 i2 fp1 fp2) (D1 : Draws prog w A i1 fp1 n1 P1 St1) (D2 : Draws prog w A i2 fp2 n2 P2 St2)
    (hz : IsZipS s.heap z TI TO .none) (hTI : IsTupOf2 s.heap TI (.ref i1) (.ref i2)) (hTO : IsTupOf2 s.heap TO a1 a2) (st1 : St1 i s.heap) (st2 : St2 i s.heap) (hlt1 : i < n1) (hlt2 : i < n2)
    (hQ : ∀ x1 x2 h' tk, P1 i x1 → P2 i x2 → IsZipS h' z TI TO (rawInt s.heap.objs.size) → IsTupOf2 h' TO x1 x2 → St1 (i + 1) h' → St2 (i + 1) h' → IsTupOf2 h' s.heap.objs.size x1 x2 → h'.objs.size = s.heap.objs.size + 1 →
      (∀ c o, c ≠ z → c ≠ TO → c ≠ i1 → c ≠ i2 → s.heap.get? c = some o → h'.get? c = some o) → Q (.ref s.heap.objs.size) { s with heap := h', toks := tk }) :
    wpAny (model prog w) A (Builtin.«zip.__next__» ⟨[.ref z], []⟩) (fun fin s' => ∃ v, fin = .done (.ret v) ∧ Q v s') E s := by
  obtain ⟨hp, g, d, tk0, os⟩ := s
  show wpAny _ _ (field (.ref z) 2 >>= _) _ _ _
  refine wpAny_bind (wpAny_field hz rfl (x := .bool true) rfl ?_)
  show wpAny _ _ (field (.ref z) 3 >>= _) _ _ _
  refine wpAny_bind (wpAny_field hz rfl (x := .ref TI) rfl ?_)
  refine wpAny_bind (wpAny_seqItems hTI rfl ?_)
  show wpAny _ _ (Builtin.SmallTypes.ownedTupleIsFree (.ref z) >>= _) _ _ _
  refine wpAny_bind ?_
  unfold Builtin.SmallTypes.ownedTupleIsFree
  refine wpAny_bind (wpAny_field hz rfl (x := .none) rfl (wpAny_pure ?_))
  simp only [if_true]
  refine wpAny_bind (wpAny_rule ?_)
  refine wpAny_bind (wpAny_field hz rfl (x := .ref TO) rfl ?_)
  refine wpAny_bind (wpAny_setField_rec hz (by simp) fun g0 hz0 hs0 => ?_)
  replace hz0 : IsZipS g0 z TI TO .ellipsis := hz0
  replace hs0 : Heap.SameBut z hp g0 := hs0
  refine wpAny_bind ?_
  simp only [List.zipIdx_cons, List.zipIdx_nil, List.forIn_cons, List.forIn_nil]
  refine wpAny_bind (wpAny_bind (wpAny_onRaise ?_))
  show wpAny _ _ (Builtin.SmallTypes.nextOrEnd (.ref i1)) _ _ ⟨g0, g, d, tk0, os⟩
  refine noe_item D1 hlt1 (D1.over st1 hs0 S.zf1) fun x1 p1 tk1 hx1 sn1 hp1 => ?_
  replace hp1 : Heap.SameBut i1 g0 p1 := hp1
  have hU1 : IsTupOf2 p1 TO a1 a2 := hp1.extBut _ _ S.Ti1 (hs0.extBut _ _ S.TOz hTO)
  refine wpAny_bind (wpAny_seqItems (s := ⟨p1, g, d, tk1, os⟩) hU1 rfl ?_)
  refine wpAny_bind (updateSeq_IsTupOf2 (s := ⟨p1, g, d, tk1, os⟩) hU1 fun g1 hT1 hs1 => ?_)
  replace hT1 : IsTupOf2 g1 TO x1 a2 := hT1
  replace hs1 : Heap.SameBut TO p1 g1 := hs1
  refine wpAny_bind (wpAny_letGo (wpAny_pure ?_))
  refine wpAny_bind (wpAny_bind (wpAny_onRaise ?_))
  show wpAny _ _ (Builtin.SmallTypes.nextOrEnd (.ref i2)) _ _ ⟨g1, g, d, tk1, os⟩
  refine noe_item D2 hlt2 (D2.over (D2.over (D2.over st2 hs0 S.zf2) hp1 S.sep1_2) hs1 S.Tf2) fun x2 p2 tk2 hx2 sn2 hp2 => ?_
  replace hp2 : Heap.SameBut i2 g1 p2 := hp2
  have hU2 : IsTupOf2 p2 TO x1 a2 := hp2.extBut _ _ S.Ti2 hT1
  refine wpAny_bind (wpAny_seqItems (s := ⟨p2, g, d, tk2, os⟩) hU2 rfl ?_)
  refine wpAny_bind (updateSeq_IsTupOf2 (s := ⟨p2, g, d, tk2, os⟩) hU2 fun g2 hT2 hs2 => ?_)
  replace hT2 : IsTupOf2 g2 TO x1 x2 := hT2
  replace hs2 : Heap.SameBut TO p2 g2 := hs2
  refine wpAny_bind (wpAny_letGo (wpAny_pure (wpAny_pure ?_)))
  refine wpAny_bind (wpAny_seqItems (s := ⟨g2, g, d, tk2, os⟩) hT2 rfl ?_)
  refine wpAny_bind (wpAny_newTuple ?_)
  have hsz : g2.objs.size = hp.objs.size := by rw [hs2.1, hp2.1, hs1.1, hp1.1, hs0.1]
  have hzz : IsZipS g2 z TI TO .ellipsis := (hs2.extBut _ _ S.TOz.symm (hp2.extBut _ _ S.zi2 (hs1.extBut _ _ S.TOz.symm (hp1.extBut _ _ S.zi1 hz0))))
  have hkk : ∀ c o, c ≠ z → c ≠ TO → c ≠ i1 → c ≠ i2 → hp.get? c = some o → g2.get? c = some o := fun c o cz cT c1 c2 e =>
    (hs2.extBut _ _ cT (hp2.extBut _ _ c2 (hs1.extBut _ _ cT (hp1.extBut _ _ c1 (hs0.extBut _ _ cz e)))))
  have hj1 : St1 (i + 1) g2 := (D1.over (D1.over (D1.over sn1 hs1 S.Tf1) hp2 S.sep2_1) hs2 S.Tf1)
  have hj2 : St2 (i + 1) g2 := (D2.over sn2 hs2 S.Tf2)
  have hzlt : z < g2.objs.size := Heap.lt_size hzz
  show wpAny _ _ (Builtin.SmallTypes.ownedTupleHandOut (.ref z) (.ref g2.objs.size) >>= _) _ _ ⟨g2.push { cls := .type "tuple", data := .seq #[x1, x2] }, g, d, tk2, os⟩
  refine wpAny_bind ?_
  unfold Builtin.SmallTypes.ownedTupleHandOut
  have hz₆ : IsZipS (g2.push { cls := .type "tuple", data := .seq #[x1, x2] }) z TI TO .ellipsis := Heap.get?_push_of_some _ hzz
  refine wpAny_bind (wpAny_setField_rec hz₆ (by simp) fun h₇ hz₇ hs₇ => ?_)
  replace hz₇ : IsZipS h₇ z TI TO (rawInt g2.objs.size) := hz₇
  refine wpAny_setField_rec hz₇ (by simp) fun h₈ hz₈ hs₈ => ?_
  replace hz₈ : IsZipS h₈ z TI TO (rawInt g2.objs.size) := hz₈
  replace hs₇ : Heap.SameBut z (g2.push { cls := .type "tuple", data := .seq #[x1, x2] }) h₇ := hs₇
  replace hs₈ : Heap.SameBut z h₇ h₈ := hs₈
  have up : ∀ c o, c ≠ z → g2.get? c = some o → h₈.get? c = some o := fun c o c1 e => hs₈.extBut _ _ c1 (hs₇.extBut _ _ c1 (Heap.get?_push_of_some _ e))
  have hT₈ : IsTupOf2 h₈ g2.objs.size x1 x2 := hs₈.extBut _ _ (Nat.ne_of_gt hzlt) (hs₇.extBut _ _ (Nat.ne_of_gt hzlt) (Heap.get?_push_size _ rfl))
  have hz8 : h₈.objs.size = g2.objs.size + 1 := by rw [hs₈.1, hs₇.1, Heap.size_push]
  rw [hsz] at hz₈ hT₈ hz8
  refine wpAny_pure ⟨_, rfl, ?_⟩
  show Q (.ref g2.objs.size) ⟨h₈, g, d, tk2, os⟩
  rw [hsz]
  exact hQ x1 x2 h₈ tk2 hx1 hx2 hz₈ (up _ _ S.TOz hT2) (D1.frame _ _ _ hj1 fun b hb o e => up b o (fun q => S.zf1 (q ▸ hb)) e) (D2.frame _ _ _ hj2 fun b hb o e => up b o (fun q => S.zf2 (q ▸ hb)) e) hT₈ hz8 fun c o cz cT c1 c2 e => up c o cz (hkk c o cz cT c1 c2 e)
theorem stop_raised (hh : A.handled = none) {Q : Fin → Shared → Prop} (hE : ∀ h' e, (∀ c o, s.heap.get? c = some o → h'.get? c = some o) → (∃ o, h'.get? e = some o ∧ o.cls = .type "StopIteration") → E (.ref e) { s with heap := h' }) : wpAny (model prog w) A (Builtin.SmallTypes.stopIteration : Sem Fin) Q E s := by
  unfold Builtin.SmallTypes.stopIteration
  show wpAny _ _ (newExc (.type "StopIteration") [] >>= _) _ _ _
  refine wpAny_bind ?_
  simp only [newExc, newTuple]
  refine wpAny_bind (wpAny_newObj_type ?_ (by size_fits))
  refine wpAny_bind (m := firstArgMember _ _) (wpAny_of_eq (a := Value.none) (by first | rfl | (simp only [firstArgMember]; rfl)) ?_)
  refine wpAny_newObj_type ?_ (by size_fits)
  simp only [raiseNew]
  refine wpAny_bind (wpAny_handled ?_)
  rw [hh]
  refine wpAny_bind (wpAny_pure (wpAny_throw ?_))
  exact hE _ _ (fun c o q => Heap.get?_push_of_some _ (Heap.get?_push_of_some _ q)) ⟨_, Heap.get?_push_size _ rfl, rfl⟩
theorem zipS_next_end (hh : A.handled = none) {Q : Fin → Shared → Prop} (S : ZipSep2 z TI TO i1 i2 fp1 fp2) (D1 : Draws prog w A i1 fp1 n P1 St1) (D2 : Draws prog w A i2 fp2 n P2 St2)
    (hz : IsZipS s.heap z TI TO .none) (hTI : IsTupOf2 s.heap TI (.ref i1) (.ref i2)) (hTO : IsTupOf2 s.heap TO a1 a2) (st1 : St1 n s.heap) (st2 : St2 n s.heap)
    (hE : ∀ h' e, (∀ c o, c ≠ z → c ≠ TO → c ≠ i1 → c ≠ i2 → s.heap.get? c = some o → h'.get? c = some o) → (∃ o, h'.get? e = some o ∧ o.cls = .type "StopIteration") → E (.ref e) { s with heap := h' }) :
    wpAny (model prog w) A (Builtin.«zip.__next__» ⟨[.ref z], []⟩) Q E s := by
  obtain ⟨hp, g, d, tk0, os⟩ := s
  show wpAny _ _ (field (.ref z) 2 >>= _) _ _ _
  refine wpAny_bind (wpAny_field hz rfl (x := .bool true) rfl ?_)
  show wpAny _ _ (field (.ref z) 3 >>= _) _ _ _
  refine wpAny_bind (wpAny_field hz rfl (x := .ref TI) rfl ?_)
  refine wpAny_bind (wpAny_seqItems hTI rfl ?_)
  show wpAny _ _ (Builtin.SmallTypes.ownedTupleIsFree (.ref z) >>= _) _ _ _
  refine wpAny_bind ?_
  unfold Builtin.SmallTypes.ownedTupleIsFree
  refine wpAny_bind (wpAny_field hz rfl (x := .none) rfl (wpAny_pure ?_))
  simp only [if_true]
  refine wpAny_bind (wpAny_rule ?_)
  refine wpAny_bind (wpAny_field hz rfl (x := .ref TO) rfl ?_)
  refine wpAny_bind (wpAny_setField_rec hz (by simp) fun g0 hz0 hs0 => ?_)
  replace hz0 : IsZipS g0 z TI TO .ellipsis := hz0
  replace hs0 : Heap.SameBut z hp g0 := hs0
  refine wpAny_bind ?_
  simp only [List.zipIdx_cons, List.zipIdx_nil, List.forIn_cons, List.forIn_nil]
  refine wpAny_bind (wpAny_bind (wpAny_onRaise ?_))
  show wpAny _ _ (Builtin.SmallTypes.nextOrEnd (.ref i1)) _ _ ⟨g0, g, d, tk0, os⟩
  refine noe_end D1 (D1.over st1 hs0 S.zf1) fun p1 hp1 => ?_
  replace hp1 : Heap.ExtBut i1 g0 p1 := hp1
  have hz1 : IsZipS p1 z TI TO .ellipsis := hp1 _ _ S.zi1 hz0
  refine wpAny_bind (wpAny_setField_rec (s := ⟨p1, g, d, tk0, os⟩) hz1 (by simp) fun g1 _ hs1 => ?_)
  replace hs1 : Heap.SameBut z p1 g1 := hs1
  have k2 : St2 n g1 := D2.frame _ _ _ st2 fun b hb o e => by
    have hbz : b ≠ z := fun q => S.zf2 (q ▸ hb)
    have hb1 : b ≠ i1 := fun q => S.sep1_2 (q ▸ hb)
    exact hs1.extBut _ _ hbz (hp1 _ _ hb1 (hs0.extBut _ _ hbz e))
  refine wpAny_bind (wpAny_bind ?_)
  simp only [List.drop_succ_cons, List.drop_zero, List.zipIdx_cons, List.zipIdx_nil, List.forIn_cons, List.forIn_nil]
  refine wpAny_bind (wpAny_bind (noe_end (s := ⟨g1, g, d, tk0, os⟩) D2 k2 fun p2 hp2 => ?_))
  replace hp2 : Heap.ExtBut i2 g1 p2 := hp2
  refine wpAny_pure (wpAny_pure ?_)
  refine wpAny_bind (wpAny_rule ?_)
  refine stop_raised hh fun h' e hk he => ?_
  exact hE h' e (fun c o cz cT c1 c2 x => hk _ _ (hp2 _ _ c2 (hs1.extBut _ _ cz (hp1 _ _ c1 (hs0.extBut _ _ cz x))))) he
end
end PySem
namespace PySem
open Sem (wp)
section
variable {prog : Program} {w : World} {A : Around} {E : Value → Shared → Prop} {s : Shared} {z TI TO i1 i2 it : Addr} {fp fp1 fp2 : List Addr} {n n1 n2 i : Nat} {P P1 P2 : Nat → Value → Prop} {St St1 St2 : Nat → Heap → Prop} {a1 a2 : Value}
theorem pyNext_zipS_item {Q : Option Value → Shared → Prop} (S : ZipSep2 z TI TO i1 i2 fp1 fp2) (D1 : Draws prog w A.in1 i1 fp1 n1 P1 St1) (D2 : Draws prog w A.in1 i2 fp2 n2 P2 St2)
    (hz : IsZipS s.heap z TI TO .none) (hTI : IsTupOf2 s.heap TI (.ref i1) (.ref i2)) (hTO : IsTupOf2 s.heap TO a1 a2) (st1 : St1 i s.heap) (st2 : St2 i s.heap) (hlt1 : i < n1) (hlt2 : i < n2)
    (hQ : ∀ x1 x2 h' tk, P1 i x1 → P2 i x2 → IsZipS h' z TI TO (rawInt s.heap.objs.size) → IsTupOf2 h' TO x1 x2 → St1 (i + 1) h' → St2 (i + 1) h' → IsTupOf2 h' s.heap.objs.size x1 x2 → h'.objs.size = s.heap.objs.size + 1 →
      (∀ c o, c ≠ z → c ≠ TO → c ≠ i1 → c ≠ i2 → s.heap.get? c = some o → h'.get? c = some o) → Q (some (.ref s.heap.objs.size)) { s with heap := h', toks := tk }) :
    wpAny (model prog w) A (pyNext (.ref z)) Q E s := by
  have hT : s.TypeIs (.ref z) "zip" := ⟨_, hz, rfl⟩
  unfold pyNext
  exact wpAny_bind (wpAny_attempt (wpAny_callSpecial?_slot (name := Str.ofString "__next__") hT F.slot_zip_next
    (wpAny_call_entry F.slot_zip_next hT F.entry_zip_next
      (zipS_next_item S D1 D2 hz hTI hTO st1 st2 hlt1 hlt2 fun x1 x2 h' tk y1 y2 b1 b2 d1 d2 b5 b6 b7 => wpAny_pure (hQ x1 x2 h' tk y1 y2 b1 b2 d1 d2 b5 b6 b7)) (F.args_zip_next_1 _))))
theorem pyNext_zipS_end {Q : Option Value → Shared → Prop} (hh : A.handled = none) (S : ZipSep2 z TI TO i1 i2 fp1 fp2) (D1 : Draws prog w A.in1 i1 fp1 n P1 St1) (D2 : Draws prog w A.in1 i2 fp2 n P2 St2)
    (hz : IsZipS s.heap z TI TO .none) (hTI : IsTupOf2 s.heap TI (.ref i1) (.ref i2)) (hTO : IsTupOf2 s.heap TO a1 a2) (st1 : St1 n s.heap) (st2 : St2 n s.heap)
    (hQ : ∀ h', (∀ c o, c ≠ z → c ≠ TO → c ≠ i1 → c ≠ i2 → s.heap.get? c = some o → h'.get? c = some o) → Q none { s with heap := h' }) : wpAny (model prog w) A (pyNext (.ref z)) Q E s := by
  have hT : s.TypeIs (.ref z) "zip" := ⟨_, hz, rfl⟩
  unfold pyNext
  refine wpAny_bind (wpAny_attempt (wpAny_callSpecial?_slot (name := Str.ofString "__next__") hT F.slot_zip_next
    (wpAny_call_entry F.slot_zip_next hT F.entry_zip_next (zipS_next_end (A := A.in1) (show A.in1.handled = none from hh) S D1 D2 hz hTI hTO st1 st2 fun h' e hk he => ?_) (F.args_zip_next_1 _))))
  obtain ⟨o, ho, hc⟩ := he
  refine wpAny_bind (wpAny_isInstance (T := "StopIteration") (b := true) ⟨o, ho, hc⟩ isSubtype_stop ?_)
  exact wpAny_pure (hQ _ hk)
theorem letGo_zipS {elts : List Expr} {x1} {pos : Pos} {T : Addr} {Q : Unit → Shared → Prop} (hz : IsZipS s.heap z TI TO (rawInt T))
    (hQ : ∀ h', IsZipS h' z TI TO .none → Heap.SameBut z s.heap h' → Q () { s with heap := h' }) :
    wpAny (model prog w) A (letOwnedTupleGo (.Tuple elts x1 pos) (.ref z) (.ref T)) Q E s := by
  unfold letOwnedTupleGo
  refine wpAny_bind (wpAny_load hz ?_)
  show wpAny _ _ (if (["enumerate", "zip", "dict_itemiterator", "dict_reverseitemiterator", "odict_iterator", "itertools.zip_longest", "itertools.pairwise"].contains "zip" &&
      (#[rawInt T, .bool false, .bool true, .ref TI, .ref TO] : Array Value)[0]? == some (rawInt T)) = true then _ else _) Q E s
  rw [if_pos (by simp)]
  refine wpAny_bind (wpAny_rule ?_)
  show wpAny _ _ (setField (.ref z) 0 .none) Q E s
  exact wpAny_setField_rec hz (by simp) fun h' hz' hs' => hQ h' hz' hs'
theorem pyIter_zipS {f0 : Value} {Q : Value → Shared → Prop} (hz : IsZipS s.heap z TI TO f0) (h : Q (.ref z) s) : wpAny (model prog w) A (pyIter (.ref z)) Q E s := by
  have hT : s.TypeIs (.ref z) "zip" := ⟨_, hz, rfl⟩
  refine wpAny_pyIter_slot hT F.slot_zip_iter (wpAny_call_entry F.slot_zip_iter hT F.entry_zip_iter ?_ (F.args_zip_iter_1 _))
  show wpAny _ _ (ret (.ref z)) _ _ s
  exact wpAny_pure ⟨_, rfl, "zip", _, hT, F.slot_zip_next.lookup, h⟩
end
theorem callWith_typeK {M : Model} {A : Around} {E : Value → Shared → Prop} {s : Shared} {pos : Pos} {T : String} {first : List Value} {args : List (Bool × Sem Value)} {keywords : List (Option Str × Sem Value)} {Q : Value → Shared → Prop}
    (hplain : args.any (·.1) = false) (hkw : keywords.any (·.1.isNone) = false)
    (h : wpAny M A (evalArgs (.type T) true args keywords) (fun a s₁ => wpAny M A (call (.type T) (first ++ a.pos) a.kw) Q E s₁) E s) :
    wpAny M A (callWith pos (.type T) first args keywords) Q E s := by
  unfold callWith
  refine wpAny_bind (wpAny_holding (wpAny_mono h (fun a s₁ h₁ => wpAny_bind (wpAny_standAt ?_)) fun _ _ x => x))
  simp only [hplain, hkw, Bool.or_false]
  refine wpAny_bind (wpAny_pure ?_)
  exact wpAny_bind (wpAny_mono h₁ (fun r s₂ hr => wpAny_bind (wpAny_holding (wpAny_point (wpAny_pure hr)))) fun _ _ x => x)
namespace F
theorem typeCall_zip_strict (a b c : Value) : checkTypeCall "zip" ⟨[a, b], [(Str.ofString "strict", c)]⟩ = pure () := by kernel_rfl
theorem newCall_zip_strict (a b c : Value) : checkBuiltinCall "zip.__new__" ⟨[.type "zip", a, b], [(Str.ofString "strict", c)]⟩ = pure () := by kernel_rfl
theorem args_object_init_zs (obj a b c : Value) : argsOk "object.__init__" ⟨[obj, a, b], [(Str.ofString "strict", c)]⟩ := by unfold argsOk; kernel_rfl
end F
abbrev gzZS (h : Heap) (o1 o2 : Obj) : Heap := (gzO2 h o1 o2).push { cls := .type "zip", data := .fields #[.none, .bool false, .bool true, .ref ((h.push o1).push o2).objs.size, .ref (gzT2 h o1 o2).objs.size] }
theorem meets_zip_newS {v1 v2 : Value} {o1 o2 : Obj} {H1 H2 : Heap → Prop} (B1 : Begins v1 o1 H1) (B2 : Begins v2 o2 H2) :
    Meets (Builtin.«zip.__new__» ⟨[.type "zip", v1, v2], [(Str.ofString "strict", .bool true)]⟩) (fun _ R s => (H1 s.heap ∧ H2 s.heap) ∧
      R (.ok (.ret (.ref (gzO2 s.heap o1 o2).objs.size))) { s with heap := gzZS s.heap o1 o2 }) :=
  .of_wp fun prog w A R s h => by
    obtain ⟨hp, g, d, tk, os⟩ := s; obtain ⟨⟨h1, h2⟩, h⟩ := h
    have hsub := sub_zip
    have q1 : ∀ {A' : Around} {E : Value → Shared → Prop} {Q : Value → Shared → Prop}, Q (.ref hp.objs.size) ⟨(hp.push o1), g, d, tk, os⟩ → wpAny (model prog w) A' (pyIter v1) Q E ⟨hp, g, d, tk, os⟩ :=
      fun q => B1.iter prog w _ _ ⟨hp, g, d, tk, os⟩ _ (B1.keeps _ _ h1 fun b o' e => e) q
    have q2 : ∀ {A' : Around} {E : Value → Shared → Prop} {Q : Value → Shared → Prop}, Q (.ref (hp.push o1).objs.size) ⟨((hp.push o1).push o2), g, d, tk, os⟩ → wpAny (model prog w) A' (pyIter v2) Q E ⟨(hp.push o1), g, d, tk, os⟩ :=
      fun q => B2.iter prog w _ _ ⟨(hp.push o1), g, d, tk, os⟩ _ (B2.keeps _ _ h2 fun b o' e => (Heap.get?_push_of_some _ e)) q
    have e1 : (Str.ofString "strict" == ("strict" : Str)) = true := by decide +kernel
    have e2 : (Str.ofString "strict" != ("strict" : Str)) = false := by decide +kernel
    wp_walk using q1, q2
    exact ⟨_, rfl, h⟩
end PySem
namespace PySem
section
variable {prog : Program} {w : World} {A : Around} {E : Value → Shared → Prop} {s : Shared}
theorem zip_beginsS {v1 v2 : Value} {o1 o2 : Obj} {H1 H2 : Heap → Prop} {Q : Value → Shared → Prop} (B1 : Begins v1 o1 H1) (B2 : Begins v2 o2 H2) (h1 : H1 s.heap) (h2 : H2 s.heap)
    (h : ∀ h', IsZipS h' (s.heap.objs.size + 4) (s.heap.objs.size + 2) (s.heap.objs.size + 3) .none → IsTupOf2 h' (s.heap.objs.size + 2) (.ref s.heap.objs.size) (.ref (s.heap.objs.size + 1)) →
      IsTupOf2 h' (s.heap.objs.size + 3) .none .none → h'.get? s.heap.objs.size = some o1 → h'.get? (s.heap.objs.size + 1) = some o2 → h'.objs.size = s.heap.objs.size + 5 →
      (∀ c o, s.heap.get? c = some o → h'.get? c = some o) → Q (.ref (s.heap.objs.size + 4)) { s with heap := h' }) :
    wpAny (model prog w) A (call (.type "zip") [v1, v2] [(Str.ofString "strict", .bool true)]) Q E s := by
  refine callType_newKw F.called_zip (by decide) (F.typeCall_zip_strict _ _ _) (F.newCall_zip_strict _ _ _) (fun obj => F.args_object_init_zs obj _ _ _) F.entry_zip_new
    (meets_zip_newS B1 B2) ⟨⟨h1, h2⟩, ?_⟩
  have z1 : (s.heap.push o1).objs.size = s.heap.objs.size + 1 := by rw [Heap.size_push]
  have z2 : ((s.heap.push o1).push o2).objs.size = s.heap.objs.size + 2 := by rw [Heap.size_push, z1]
  have zT : (gzT2 s.heap o1 o2).objs.size = s.heap.objs.size + 3 := by rw [Heap.size_push, z2]
  have zO : (gzO2 s.heap o1 o2).objs.size = s.heap.objs.size + 4 := by rw [Heap.size_push, zT]
  have zZ : (gzZS s.heap o1 o2).objs.size = s.heap.objs.size + 5 := by rw [Heap.size_push, zO]
  have gZ : (gzZS s.heap o1 o2).get? (gzO2 s.heap o1 o2).objs.size = some { cls := .type "zip", data := .fields #[.none, .bool false, .bool true, .ref ((s.heap.push o1).push o2).objs.size, .ref (gzT2 s.heap o1 o2).objs.size] } := Heap.get?_push_size _ rfl
  have gO : (gzZS s.heap o1 o2).get? (gzT2 s.heap o1 o2).objs.size = some { cls := .type "tuple", data := .seq #[.none, .none] } := Heap.get?_push_of_some _ (Heap.get?_push_size _ rfl)
  have gT : (gzZS s.heap o1 o2).get? ((s.heap.push o1).push o2).objs.size = some { cls := .type "tuple", data := .seq #[.ref s.heap.objs.size, .ref (s.heap.push o1).objs.size] } := Heap.get?_push_of_some _ (Heap.get?_push_of_some _ (Heap.get?_push_size _ rfl))
  have g1 : (gzZS s.heap o1 o2).get? s.heap.objs.size = some o1 := Heap.get?_push_of_some _ (Heap.get?_push_of_some _ (Heap.get?_push_of_some _ (Heap.get?_push_of_some _ (Heap.get?_push_size _ B1.free))))
  have g2 : (gzZS s.heap o1 o2).get? (s.heap.push o1).objs.size = some o2 := Heap.get?_push_of_some _ (Heap.get?_push_of_some _ (Heap.get?_push_of_some _ (Heap.get?_push_size _ B2.free)))
  rw [zO, zT, z2] at gZ
  rw [zT] at gO
  rw [z2, z1] at gT
  rw [z1] at g2
  show _ ∧ _
  rw [zO]
  exact ⟨⟨_, gZ, rfl⟩, h _ gZ gT gO g1 g2 zZ fun c o e => Heap.get?_push_of_some _ (Heap.get?_push_of_some _ (Heap.get?_push_of_some _ (Heap.get?_push_of_some _ (Heap.get?_push_of_some _ e))))⟩
end
end PySem
namespace Dk
open PySem PySem.Spec PyProof.Rows L2
def SqC (K : Fg) (H : Hp) : Bool → Addr → List V → Prop
  | true, a, xs => SqT K H a xs
  | false, a, xs => SqL K H a xs
def ItC (h : Heap) : Bool → Addr → Addr → Nat → Prop
  | true, it, a, i => h.IsTupleIter it a i
  | false, it, a, i => h.IsListIter it a i
def StC (h : Heap) : Bool → Addr → Array Value → Prop
  | true, a, xs => h.IsTuple a xs
  | false, a, xs => h.IsList a xs
def objC : Bool → Addr → Obj
  | true, a => { cls := .type "tuple_iterator", data := .fields #[.ref a, .int 0 0] }
  | false, a => { cls := .type "list_iterator", data := .fields #[.ref a, .int 0 0] }
theorem begC (c : Bool) (a : Addr) (xs : Array Value) : Begins (.ref a) (objC c a) fun h => StC h c a xs := by
  cases c
  · exact begins_list a xs
  · exact begins_tuple a xs
theorem drawsC {prog : Program} {w : World} {A : Around} (hh : A.handled = none) (c : Bool) (it a : Addr) (hne : a ≠ it) (xs : Array Value) :
    Draws prog w A it [it, a] xs.size (fun i v => xs[i]? = some v) (fun i h => ItC h c it a i ∧ StC h c a xs) := by
  cases c
  · exact Draws.list hh it a hne xs
  · exact Draws.tuple hh it a hne xs
theorem itC0 {c : Bool} {h : Heap} {it a : Addr} (e : h.get? it = some (objC c a)) : ItC h c it a 0 := by
  cases c
  · exact ⟨_, e, rfl, rfl⟩
  · exact ⟨_, e, rfl, rfl⟩
theorem ItC.at {c : Bool} {h h' : Heap} {it a : Addr} {i : Nat} (H : ItC h c it a i) (k : ∀ o, h.get? it = some o → h'.get? it = some o) : ItC h' c it a i := by
  cases c
  · exact Heap.IsListIter.at H k
  · exact Heap.IsTupleIter.at H k
theorem ItC.obj {c : Bool} {h : Heap} {it a : Addr} {i : Nat} (H : ItC h c it a i) : ∃ o, h.get? it = some o ∧ ∀ v, o.data ≠ .cell v := by
  cases c
  · obtain ⟨o, e, _, d⟩ := H
    exact ⟨o, e, fun v q => by rw [d] at q; cases q⟩
  · obtain ⟨o, e, _, d⟩ := H
    exact ⟨o, e, fun v q => by rw [d] at q; cases q⟩
theorem seqC {X : Cx} {pins : List (Addr × Obj)} {σ : L2.St} {H : Hp} {s : Shared} (I : L2.Inv X pins σ H s) {c : Bool} {a : Addr} {xs : List V} (h : SqC X.K H c a xs) : ∃ its : List Value, Vals xs its ∧ StC s.heap c a its.toArray ∧ a < s.heap.objs.size := by
  cases c
  · obtain ⟨its, rv, p, _⟩ := I.list h
    exact ⟨its, rv, p.isList, p.lt⟩
  · obtain ⟨its, rv, p, _⟩ := I.tuple h
    obtain ⟨o, ho, _⟩ := id p
    exact ⟨its, rv, p, Heap.lt_size ho⟩
theorem seqC_inj {X : Cx} {pins : List (Addr × Obj)} {σ : L2.St} {H : Hp} {s : Shared} (I : L2.Inv X pins σ H s) {c : Bool} {a : Addr} {xs ys : List V} (h : SqC X.K H c a xs) (h' : SqC X.K H c a ys) : xs = ys := by
  cases c
  · exact I.list_inj h h'
  · exact I.tuple_inj h h'
def IsZ (st : Bool) (h : Heap) (z TI TO : Addr) (f0 : Value) : Prop := h.get? z = some { cls := .type "zip", data := .fields #[f0, .bool false, .bool st, .ref TI, .ref TO] }
structure Apart2 (z TI TO i1 i2 a b : Addr) : Prop where
  sep : ZipSep2 z TI TO i1 i2 [i1, a] [i2, b]
  a1 : a ≠ i1
  b2 : b ≠ i2
def ItZ (K : Fg) (st : Bool) (c1 c2 : Bool) (a b : Addr) : It :=
  ⟨fun i H => ∃ (xs ys : List V) (x y : V), SqC K H c1 a xs ∧ SqC K H c2 b ys ∧ xs[i]? = some x ∧ ys[i]? = some y,
    fun i H v H' => ∃ T x y o, v = .ref T ∧ H T = none ∧ (H' = upd H T (.frz o (.tup [x, y])) ∧ o.dict = none) ∧ (∀ xs, SqC K H c1 a xs → xs[i]? = some x) ∧ ∀ ys, SqC K H c2 b ys → ys[i]? = some y,
    fun i H => ∃ xs ys : List V, SqC K H c1 a xs ∧ SqC K H c2 b ys ∧ i ≤ xs.length ∧ i ≤ ys.length ∧ (i = xs.length ∨ i = ys.length) ∧ (st = true → i = xs.length ∧ i = ys.length)⟩
theorem turn_z {P : Program} {w : World} {K : Fg} {elts : List Expr} {kk : Nat} {tpos : Pos} {st c1 c2 : Bool} {a b z TI TO i1 i2 : Addr} (D : Apart2 z TI TO i1 i2 a b) :
    Turn P w K (.Tuple elts kk tpos) (ItZ K st c1 c2 a b) [z, TI, TO, i1, i2] z (fun i h => IsZ st h z TI TO .none ∧ IsTupOf2 h TI (.ref i1) (.ref i2) ∧ (∃ x y, IsTupOf2 h TO x y) ∧ ItC h c1 i1 a i ∧ ItC h c2 i2 b i) where
  mem := by simp
  obj := fun i h stt c hc => by
    obtain ⟨hz, hTI, ⟨x, y, hTO⟩, h1, h2⟩ := stt
    have e' : c = z ∨ c = TI ∨ c = TO ∨ c = i1 ∨ c = i2 := by simpa using hc
    rcases e' with q | q | q | q | q
    · rw [q]; exact ⟨_, hz, fun v q => nomatch q⟩
    · rw [q]; exact ⟨_, hTI, fun v q => nomatch q⟩
    · rw [q]; exact ⟨_, hTO, fun v q => nomatch q⟩
    · rw [q]; exact h1.obj
    · rw [q]; exact h2.obj
  keep := fun i h h' stt k => by
    obtain ⟨hz, hTI, ⟨x, y, hTO⟩, h1, h2⟩ := stt
    exact ⟨k z (by simp) _ hz, k TI (by simp) _ hTI, ⟨x, y, k TO (by simp) _ hTO⟩, h1.at fun o q => k i1 (by simp) o q, h2.at fun o q => k i2 (by simp) o q⟩
  item := by
    intro X hP hw hK hc i pins s σ H E I hf stt hg
    subst hP hw hK
    obtain ⟨hz, hTI, ⟨x0, y0, hTO⟩, h1, h2⟩ := stt
    obtain ⟨xs, ys, x, y, hqx, hqy, hx, hy⟩ := hg
    obtain ⟨its, rv, p, _⟩ := seqC I hqx
    obtain ⟨its2, rv2, p2, _⟩ := seqC I hqy
    obtain ⟨u, hu, ru⟩ := rv.get hx
    obtain ⟨u2, hu2, ru2⟩ := rv2.get hy
    have hzl : z < s.heap.objs.size := Heap.lt_size hz
    have hh : X.A.in1.handled = none := I.ok.hd hc
    have D1 := drawsC (prog := X.prog) (w := X.w) hh c1 i1 a D.a1 its.toArray
    have D2 := drawsC (prog := X.prog) (w := X.w) hh c2 i2 b D.b2 its2.toArray
    have hi1 : i < its.toArray.size := by simpa using (List.getElem?_eq_some_iff.mp hu).1
    have hi2 : i < its2.toArray.size := by simpa using (List.getElem?_eq_some_iff.mp hu2).1
    have S := D.sep
    have fin : ∀ (h' : Heap) (tk : Tok) (x1 x2 : Value), its.toArray[i]? = some x1 → its2.toArray[i]? = some x2 → IsZ st h' z TI TO (rawInt s.heap.objs.size) → IsTupOf2 h' TO x1 x2 → ItC h' c1 i1 a (i + 1) → ItC h' c2 i2 b (i + 1) → IsTupOf2 h' s.heap.objs.size x1 x2 →
        (∀ c o, c ≠ z → c ≠ TO → c ≠ i1 → c ≠ i2 → s.heap.get? c = some o → h'.get? c = some o) → ∃ v, some (Value.ref s.heap.objs.size) = some v ∧
          wpAny (model X.prog X.w) X.A (letOwnedTupleGo (.Tuple elts kk tpos) (.ref z) v) (fun _ s2 => ∃ x H', L2.Inv X pins σ H' s2 ∧ RelV x v ∧ (ItZ X.K st c1 c2 a b).yld i H x H' ∧ (IsZ st s2.heap z TI TO .none ∧ IsTupOf2 s2.heap TI (.ref i1) (.ref i2) ∧ (∃ x y, IsTupOf2 s2.heap TO x y) ∧ ItC s2.heap c1 i1 a (i + 1) ∧ ItC s2.heap c2 i2 b (i + 1)) ∧ ∀ b ∈ [z, TI, TO, i1, i2], H' b = none) E { s with heap := h', toks := tk } := by
      intro h' tk x1 x2 hx1 hx2 z' TO' j1 j2 hT hk
      have e1 : x1 = u := by rw [List.getElem?_toArray, hu] at hx1; cases hx1; rfl
      have e2 : x2 = u2 := by rw [List.getElem?_toArray, hu2] at hx2; cases hx2; rfl
      subst e1 e2
      refine ⟨_, rfl, ?_⟩
      have go : ∀ (h'' : Heap), IsZ st h'' z TI TO .none → Heap.SameBut z h' h'' → ∃ x H', L2.Inv X pins σ H' { s with heap := h'', toks := tk } ∧ RelV x (Value.ref s.heap.objs.size) ∧ (ItZ X.K st c1 c2 a b).yld i H x H' ∧ (IsZ st h'' z TI TO .none ∧ IsTupOf2 h'' TI (.ref i1) (.ref i2) ∧ (∃ x y, IsTupOf2 h'' TO x y) ∧ ItC h'' c1 i1 a (i + 1) ∧ ItC h'' c2 i2 b (i + 1)) ∧ ∀ b ∈ [z, TI, TO, i1, i2], H' b = none := by
        intro h'' z'' sb
        have hT2 : h''.get? s.heap.objs.size = some { cls := .type "tuple", data := .seq #[x1, x2] } := (sb.2 _ (Nat.ne_of_gt hzl)).trans hT
        have new : ObjOk X.prog X.w (upd H s.heap.objs.size (.frz (tObj #[x1, x2]) (.tup [x, y]))) h'' s.heap.objs.size (.frz (tObj #[x1, x2]) (.tup [x, y])) :=
          ⟨hT2, by show 2 ≤ sizeLine; decide, [x1, x2], .cons ru (.cons ru2 .nil), ⟨_, hT2, rfl, _, rfl⟩⟩
        have I1 : L2.Inv X pins σ (upd H s.heap.objs.size (.frz (tObj #[x1, x2]) (.tup [x, y]))) { s with heap := h'', toks := tk } :=
          I.turnedNew (t' := tk) (ch := [z, TI, TO, i1, i2]) (fun c o hb q => (sb.2 c (fun q' => hb (by simp [q']))).trans (hk c o (fun q' => hb (by simp [q'])) (fun q' => hb (by simp [q'])) (fun q' => hb (by simp [q'])) (fun q' => hb (by simp [q'])) q)) hf (Nat.le_refl _) new
        refine ⟨.ref s.heap.objs.size, _, I1, rfl, ⟨_, x, y, _, rfl, I.hok.fresh (Nat.le_refl _), ⟨rfl, rfl⟩, fun l hl => by rw [seqC_inj I hl hqx]; exact hx, fun l hl => by rw [seqC_inj I hl hqy]; exact hy⟩, ⟨z'', ?_, ⟨x1, x2, ?_⟩, ?_, ?_⟩, fun c hcm => ?_⟩
        · exact (sb.2 _ S.TIz).trans (hk _ _ S.TIz S.TITO S.TIi1 S.TIi2 hTI)
        · exact (sb.2 _ S.TOz).trans TO'
        · exact j1.at fun o q => (sb.2 _ S.zi1.symm).trans q
        · exact j2.at fun o q => (sb.2 _ S.zi2.symm).trans q
        · have hlt : c < s.heap.objs.size := by
            have e' : c = z ∨ c = TI ∨ c = TO ∨ c = i1 ∨ c = i2 := by simpa using hcm
            rcases e' with q | q | q | q | q
            · rw [q]; exact hzl
            · rw [q]; exact Heap.lt_size hTI
            · rw [q]; exact Heap.lt_size hTO
            · rw [q]; obtain ⟨_, e1, _⟩ := h1.obj; exact Heap.lt_size e1
            · rw [q]; obtain ⟨_, e2, _⟩ := h2.obj; exact Heap.lt_size e2
          rw [upd_ne (Nat.ne_of_lt hlt)]
          exact (hf c hcm).1
      cases st
      · exact wpAny_letOwnedTupleGo_zip (s := { s with heap := h', toks := tk }) z' fun h'' z'' sb => go h'' z'' sb
      · exact letGo_zipS (s := { s with heap := h', toks := tk }) z' fun h'' z'' sb => go h'' z'' sb
    cases st
    · exact wpAny_pyNext_zipD2_item S D1 D2 hz hTI hTO ⟨h1, p⟩ ⟨h2, p2⟩ hi1 hi2 fun x1 x2 h' tk hx1 hx2 z' TO' s1 s2 hT _ hk => fin h' tk x1 x2 hx1 hx2 z' TO' s1.1 s2.1 hT hk
    · exact pyNext_zipS_item S D1 D2 hz hTI hTO ⟨h1, p⟩ ⟨h2, p2⟩ hi1 hi2 fun x1 x2 h' tk hx1 hx2 z' TO' s1 s2 hT _ hk => fin h' tk x1 x2 hx1 hx2 z' TO' s1.1 s2.1 hT hk
  done := by
    intro X hP hw hK hc i pins s σ H E I hf stt hg
    subst hP hw hK
    obtain ⟨hz, hTI, ⟨x0, y0, hTO⟩, h1, h2⟩ := stt
    obtain ⟨xs, ys, hqx, hqy, l1, l2, hend, hst⟩ := hg
    obtain ⟨its, rv, p, _⟩ := seqC I hqx
    obtain ⟨its2, rv2, p2, _⟩ := seqC I hqy
    have m1 : its.toArray.size = xs.length := by simp [rv.length]
    have m2 : its2.toArray.size = ys.length := by simp [rv2.length]
    have hh : X.A.in1.handled = none := I.ok.hd hc
    have D1 := drawsC (prog := X.prog) (w := X.w) hh c1 i1 a D.a1 its.toArray
    have D2 := drawsC (prog := X.prog) (w := X.w) hh c2 i2 b D.b2 its2.toArray
    have fin : ∀ (h' : Heap) (tk : Tok), (∀ c o, c ≠ z → c ≠ TO → c ≠ i1 → c ≠ i2 → s.heap.get? c = some o → h'.get? c = some o) → L2.Inv X pins σ H { s with heap := h', toks := tk } := fun h' tk hk =>
      I.turnedL (t' := tk) (ch := [z, TI, TO, i1, i2]) (fun c o hb q => hk c o (fun q' => hb (by simp [q'])) (fun q' => hb (by simp [q'])) (fun q' => hb (by simp [q'])) (fun q' => hb (by simp [q'])) q) hf
    cases st
    · exact wpAny_pyNext_zipD2_end D.sep D1 D2 hz hTI hTO ⟨h1, p⟩ ⟨h2, p2⟩ (by omega) (by omega) (by omega) fun h' tk hk => ⟨rfl, fin h' tk hk⟩
    · obtain ⟨e1, e2⟩ := hst rfl
      rw [m1, ← e1] at D1
      rw [m2, ← e2] at D2
      exact pyNext_zipS_end (I.ok.hd hc) D.sep D1 D2 hz hTI hTO ⟨h1, p⟩ ⟨h2, p2⟩ fun h' hk => ⟨rfl, fin h' s.toks hk⟩
  self := fun A i s Q E stt h => by
    cases st
    · exact wpAny_pyIter_zip stt.1 h
    · exact pyIter_zipS stt.1 h
end Dk
namespace PySem
theorem meets_enumerate_newG {v : Value} {o : Obj} {H : Heap → Prop} (B : Begins v o H) :
    Meets (Builtin.«enumerate.__new__» ⟨[.type "enumerate", v], []⟩) (fun _ R s => H s.heap ∧
      R (.ok (.ret (.ref (s.heap.push o).objs.size))) { s with heap := (s.heap.push o).push { cls := .type "enumerate", data := .fields #[.none, .bool false, .ref s.heap.objs.size, rawInt 0, .none, .none] } }) :=
  .of_wp fun prog w A R s h => by
    obtain ⟨hp, g, d, tk, os⟩ := s; obtain ⟨h1, h⟩ := h
    have hsub := sub_enumerate
    have q1 : ∀ {A' : Around} {E : Value → Shared → Prop} {Q : Value → Shared → Prop}, Q (.ref hp.objs.size) ⟨hp.push o, g, d, tk, os⟩ → wpAny (model prog w) A' (pyIter v) Q E ⟨hp, g, d, tk, os⟩ :=
      fun q => B.iter prog w _ _ ⟨hp, g, d, tk, os⟩ _ h1 q
    wp_walk using q1
    refine wpAny_stack_any fun st => wpAny_pure ?_
    split
    · rename_i c _ _ _ _ _
      cases (c == Value.type "enumerate")
      · wp_walk using q1
        exact ⟨_, rfl, h⟩
      · wp_walk using q1
        exact ⟨_, rfl, h⟩
    · wp_walk using q1
      exact ⟨_, rfl, h⟩
section
variable {prog : Program} {w : World} {A : Around} {E : Value → Shared → Prop} {s : Shared}
theorem call_enumerateG {v : Value} {o : Obj} {H : Heap → Prop} {Q : Value → Shared → Prop} (B : Begins v o H) (h1 : H s.heap)
    (h : ∀ h', IsEnum h' (s.heap.objs.size + 1) s.heap.objs.size 0 .none → h'.get? s.heap.objs.size = some o → h'.objs.size = s.heap.objs.size + 2 →
      (∀ b o, s.heap.get? b = some o → h'.get? b = some o) → Q (.ref (s.heap.objs.size + 1)) { s with heap := h' }) :
    wpAny (model prog w) A (call (.type "enumerate") [v]) Q E s := by
  refine callType_new F.called_enumerate (by decide) (F.typeCall_enumerate_1 _) (F.newCall_enumerate_1 _) (fun obj => F.args_object_init_2 obj _) F.entry_enumerate_new
    (meets_enumerate_newG B) ⟨h1, ?_⟩
  have hz : (s.heap.push o).objs.size = s.heap.objs.size + 1 := Heap.size_push ..
  show _ ∧ _
  rw [hz]
  have he : IsEnum ((s.heap.push o).push { cls := .type "enumerate", data := .fields #[.none, .bool false, .ref s.heap.objs.size, rawInt 0, .none, .none] }) (s.heap.objs.size + 1) s.heap.objs.size 0 .none := by
    have := Heap.get?_push_size (s.heap.push o) (o := { cls := .type "enumerate", data := .fields #[.none, .bool false, .ref s.heap.objs.size, rawInt 0, .none, .none] }) rfl
    rw [hz] at this; exact this
  refine ⟨⟨_, he, rfl⟩, h _ he (Heap.get?_push_of_some _ (Heap.get?_push_size _ B.free)) (by rw [Heap.size_push, hz]) fun b o x => Heap.get?_push_of_some _ (Heap.get?_push_of_some _ x)⟩
end
end PySem
namespace Dk
open PySem PySem.Spec PyProof.Rows L2
variable {S : Type} [StK S]
def ItE (K : Fg) (c : Bool) (a : Addr) : It :=
  ⟨fun i H => ∃ (xs : List V) (x : V), SqC K H c a xs ∧ xs[i]? = some x, fun i H v H' => ∃ T x o, v = .ref T ∧ H T = none ∧ (H' = upd H T (.frz o (.tup [.int (i : Nat), x])) ∧ o.dict = none) ∧ ∀ xs, SqC K H c a xs → xs[i]? = some x, fun i H => ∃ xs : List V, SqC K H c a xs ∧ i = xs.length⟩
theorem turn_e {P : Program} {w : World} {K : Fg} {elts : List Expr} {kk : Nat} {tpos : Pos} {c : Bool} {a e it : Addr} (ha : a ≠ it) (hea : e ≠ a) :
    Turn P w K (.Tuple elts kk tpos) (ItE K c a) [e, it] e (fun i h => (∃ old, IsEnum h e it ((i : Nat) : Int) old) ∧ ItC h c it a i ∧ e ≠ it) where
  mem := by simp
  obj := fun i h st b hb => by
    obtain ⟨⟨old, he⟩, hi, _⟩ := st
    have e' : b = e ∨ b = it := by simpa using hb
    rcases e' with z | z
    · rw [z]; exact ⟨_, he, fun v q => nomatch q⟩
    · rw [z]; exact hi.obj
  keep := fun i h h' st k => let ⟨⟨old, he⟩, hi, hne⟩ := st; ⟨⟨old, k e (by simp) _ he⟩, hi.at fun o q => k it (by simp) o q, hne⟩
  item := by
    intro X hP hw hK hc i pins s σ H E I hf st hg
    subst hP hw hK
    obtain ⟨⟨old, he⟩, hit, hne⟩ := st
    obtain ⟨xs, x, hq, hx⟩ := hg
    obtain ⟨its, rv, p, _⟩ := seqC I hq
    obtain ⟨u, hu, ru⟩ := rv.get hx
    have hel : e < s.heap.objs.size := Heap.lt_size he
    have hil : it < s.heap.objs.size := by obtain ⟨_, q, _⟩ := hit.obj; exact Heap.lt_size q
    have D := drawsC (prog := X.prog) (w := X.w) (A := X.A.in1) (I.ok.hd hc) c it a ha its.toArray
    have hi : i < its.toArray.size := by simpa using (List.getElem?_eq_some_iff.mp hu).1
    refine wpAny_pyNext_enum_itemC D he ⟨hit, p⟩ hi hne (by simp [hne, hea]) fun x1 h' tk hx1 ho s1 hT hsz hk => ?_
    have e1 : x1 = u := by rw [List.getElem?_toArray, hu] at hx1; cases hx1; rfl
    subst e1
    refine ⟨_, rfl, wpAny_letOwnedTupleGo_enum (s := { s with heap := h', toks := tk + 1 }) ho fun h'' he' sb => ?_⟩
    have hT2 : h''.get? s.heap.objs.size = some { cls := .type "tuple", data := .seq #[.int i tk, x1] } := (sb.2 _ (Nat.ne_of_gt hel)).trans hT
    have new : ObjOk X.prog X.w (upd H s.heap.objs.size (.frz (tObj #[.int i tk, x1]) (.tup [.int (i : Nat), x]))) h'' s.heap.objs.size (.frz (tObj #[.int i tk, x1]) (.tup [.int (i : Nat), x])) :=
      ⟨hT2, by show 2 ≤ sizeLine; decide, [.int i tk, x1], .cons ⟨_, rfl⟩ (.cons ru .nil), ⟨_, hT2, rfl, _, rfl⟩⟩
    have I1 : L2.Inv X pins σ (upd H s.heap.objs.size (.frz (tObj #[.int i tk, x1]) (.tup [.int (i : Nat), x]))) { s with heap := h'', toks := tk + 1 } :=
      I.turnedNew (ch := [e, it]) (fun b ob hb q => (sb.2 b (fun z => hb (by simp [z]))).trans (hk b ob (fun z => hb (by simp [z])) (fun z => hb (by simp [z])) q)) hf (Nat.le_refl _) new
    refine ⟨.ref s.heap.objs.size, _, I1, rfl, ⟨_, x, _, rfl, I.hok.fresh (Nat.le_refl _), ⟨rfl, rfl⟩, fun ys hy => by rw [seqC_inj I hy hq]; exact hx⟩, ⟨⟨x1, ?_⟩, s1.1.at fun o q => (sb.2 it (Ne.symm hne)).trans q, hne⟩, fun b hb => ?_⟩
    · have e1 : ((i + 1 : Nat) : Int) = (i : Int) + 1 := by omega
      rw [e1]; exact he'
    · have hb' : b < s.heap.objs.size := by
        have e' : b = e ∨ b = it := by simpa using hb
        rcases e' with z | z
        · rw [z]; exact hel
        · rw [z]; exact hil
      rw [upd_ne (Nat.ne_of_lt hb')]
      exact (hf b hb).1
  done := by
    intro X hP hw hK hc i pins s σ H E I hf st hg
    subst hP hw hK
    obtain ⟨⟨old, he⟩, hit, hne⟩ := st
    obtain ⟨xs, hq, hx⟩ := hg
    obtain ⟨its, rv, p, _⟩ := seqC I hq
    obtain ⟨f0, f1, f2, f3, f4, f5⟩ := hf it (by simp)
    have hl : its.toArray.size = xs.length := by simp [rv.length]
    have D := drawsC (prog := X.prog) (w := X.w) (A := X.A.in1) (I.ok.hd hc) c it a ha its.toArray
    rw [hl, ← hx] at D
    exact wpAny_pyNext_enum_endD D he ⟨hit, p⟩ fun h' eb => ⟨rfl, I.turned (t' := s.toks) (fun b o hb q => eb b o hb q) f0 f1 f3 f4 f5⟩
  self := fun A i s Q E st h => let ⟨⟨_, he⟩, _⟩ := st; wpAny_pyIter_enum he h
section
variable {X : Cx} {e e2 : Expr} {ta : TA} {p pos tpos : Pos} {elts : List Expr} {kk : Nat}
def iEnumC (K : Fg) (ta : TA) : TI := fun σ H R => ta σ H fun vs H1 => ∃ a c xs, vs = [.ref a] ∧ SqC K H1 c a xs ∧ R (ItE K c a) H1
theorem pi_e (hg : Gl X "enumerate") (hm : X.mg "enumerate" = none) (ha : PA X [e] ta) (hs : starEach [e] X.env = [(false, eval e X.env)] := by rfl) :
    PI X (.Tuple elts kk tpos) (.Call (.Name "enumerate" p) [e] [] pos) (iEnumC X.K ta) := by
  refine ⟨fun pins s σ H R I h => ?_⟩
  refine Call_ (ld_blt I hg hm boot_enumerate (PyProof.Rows.callWith_type1 (thn (ha.run pos pins s σ H _ I h) fun us s1 ⟨vs, H1, I1, r1, q1⟩ => ?_) hs rfl))
  obtain ⟨a, c, xs, ex, hq, q⟩ := q1
  subst ex
  cases r1 with
  | cons r rr =>
    cases rr
    cases r
    obtain ⟨its, rv, p', hlt⟩ := seqC I1 hq
    refine call_enumerateG (begC c a its.toArray) p' fun h' he hit hsz hk => wpAny_pyIter_enum he ?_
    have I2 : L2.Inv X pins σ H1 { s1 with heap := h' } := I1.kept (t' := s1.toks) hk
    refine ⟨s1.heap.objs.size + 1, [s1.heap.objs.size + 1, s1.heap.objs.size], _, _, H1, rfl, I2, turn_e (c := c) (a := a) (e := s1.heap.objs.size + 1) (it := s1.heap.objs.size) (Nat.ne_of_lt hlt) (Nat.ne_of_gt (Nat.lt_succ_of_lt hlt)), ⟨⟨.none, he⟩, itC0 hit, Nat.succ_ne_self _⟩, fun b hb => ?_, q⟩
    have e' : b = s1.heap.objs.size + 1 ∨ b = s1.heap.objs.size := by simpa using hb
    have hle : s1.heap.objs.size ≤ b := by
      rcases e' with z | z
      · rw [z]; exact Nat.le_add_right _ _
      · rw [z]; exact Nat.le_refl _
    exact I1.fpOk hle (I1.hok.fresh hle)
def iZipC (K : Fg) (st : Bool) (ta : TA) : TI := fun σ H R => ta σ H fun vs H1 => ∃ a b c1 c2 xs ys, vs = [.ref a, .ref b] ∧ SqC K H1 c1 a xs ∧ SqC K H1 c2 b ys ∧ R (ItZ K st c1 c2 a b) H1
theorem fresh5 {pins : List (Addr × Obj)} {σ : L2.St} {H : Hp} {s : Shared} (I : L2.Inv X pins σ H s) : ∀ c, c ∈ [s.heap.objs.size + 4, s.heap.objs.size + 2, s.heap.objs.size + 3, s.heap.objs.size, s.heap.objs.size + 1] → FpOk X pins H c := fun c hcm => by
  have e' : c = s.heap.objs.size + 4 ∨ c = s.heap.objs.size + 2 ∨ c = s.heap.objs.size + 3 ∨ c = s.heap.objs.size ∨ c = s.heap.objs.size + 1 := by simpa using hcm
  have hle : s.heap.objs.size ≤ c := by
    rcases e' with z | z | z | z | z
    · rw [z]; exact Nat.le_add_right _ _
    · rw [z]; exact Nat.le_add_right _ _
    · rw [z]; exact Nat.le_add_right _ _
    · rw [z]; exact Nat.le_refl _
    · rw [z]; exact Nat.le_add_right _ _
  exact I.fpOk hle (I.hok.fresh hle)
theorem apart_new {N a b : Nat} (ha : a < N) (hb : b < N) : Apart2 (N + 4) (N + 2) (N + 3) N (N + 1) a b :=
  ⟨zip_sep2 (fp1 := [a]) (fp2 := [b]) (by simp; exact ha) (by simp; exact hb), Nat.ne_of_lt ha, Nat.ne_of_lt (Nat.lt_succ_of_lt hb)⟩
theorem pi_z (hg : Gl X "zip") (hm : X.mg "zip" = none) (ha : PA X [e, e2] ta)
    (hs : starEach [e, e2] X.env = (false, eval e X.env) :: starEach [e2] X.env := by rfl) (hpl : (backTo pos (starEach [e2] X.env)).any (·.1) = false := by rfl) :
    PI X (.Tuple elts kk tpos) (.Call (.Name "zip" p) [e, e2] [] pos) (iZipC X.K false ta) := by
  refine ⟨fun pins s σ H R I h => ?_⟩
  refine Call_ (ld_blt I hg hm PyProof.Rows.boot_zip (PyProof.Rows.callWith_type1 (thn (ha.run pos pins s σ H _ I h) fun us s1 ⟨vs, H1, I1, r1, q1⟩ => ?_) hs hpl))
  obtain ⟨a, b, c1, c2, xs, ys, ex, hqx, hqy, q⟩ := q1
  subst ex
  cases r1 with
  | cons r rr =>
    cases rr with
    | cons r' rr =>
      cases rr
      cases r
      cases r'
      obtain ⟨its, rv, p1, l1⟩ := seqC I1 hqx
      obtain ⟨its2, rv2, p2, l2⟩ := seqC I1 hqy
      refine zip_begins2 (begC c1 a its.toArray) (begC c2 b its2.toArray) p1 p2 fun h' hz hTI hTO h1 h2 hsz hk => wpAny_pyIter_zip hz ?_
      have I2 : L2.Inv X pins σ H1 { s1 with heap := h' } := I1.kept (t' := s1.toks) hk
      exact ⟨s1.heap.objs.size + 4, [s1.heap.objs.size + 4, s1.heap.objs.size + 2, s1.heap.objs.size + 3, s1.heap.objs.size, s1.heap.objs.size + 1], _, _, H1, rfl, I2, turn_z (apart_new l1 l2), ⟨hz, hTI, ⟨_, _, hTO⟩, itC0 h1, itC0 h2⟩, fresh5 I1, q⟩
theorem pi_zS {j : Nat} {kp kp2 : Pos} (hg : Gl X "zip") (hm : X.mg "zip" = none) (ha : PA X [e, e2] ta)
    (he : backTo pos (starEach [e, e2] X.env) = (false, eval e X.env) :: backTo pos (starEach [e2] X.env) := by rfl) (hpl : (backTo pos (starEach [e, e2] X.env)).any (·.1) = false := by rfl) :
    PI X (.Tuple elts kk tpos) (.Call (.Name "zip" p) [e, e2] [⟨some (Str.ofString "strict"), .Constant (.bool true) j kp, kp2⟩] pos) (iZipC X.K true ta) := by
  refine ⟨fun pins s σ H R I h => ?_⟩
  refine wpAny_Call_Name_kw (ld_blt I hg hm PyProof.Rows.boot_zip ?_)
  refine callWith_typeK hpl rfl ?_
  have hk : PK X [⟨some (Str.ofString "strict"), .Constant (.bool true) j kp, kp2⟩] _ := pk_cons pe_bl pk_nil
  rw [he]
  refine evalArgs_kwB rfl ?_
  have hh := ha.run pos pins s σ H _ I h
  rw [he] at hh
  refine thn hh fun us s1 ⟨vs, H1, I1, r1, q1⟩ => ?_
  refine thn (hk.run pos pins s1 σ H1 (fun zs H2 => zs = [.bl true] ∧ H2 = H1) I1 ⟨rfl, rfl⟩) fun ws s2 ⟨zs, H2, I2, r2, q2⟩ => ?_
  obtain ⟨rfl, rfl⟩ := q2
  obtain ⟨a, b, c1, c2, xs, ys, ex, hqx, hqy, q⟩ := q1
  subst ex
  cases r2 with
  | cons w ww =>
    cases ww
    obtain rfl := w
    cases r1 with
    | cons r rr =>
      cases rr with
      | cons r' rr =>
        cases rr
        cases r
        cases r'
        obtain ⟨its, rv, p1, l1⟩ := seqC I2 hqx
        obtain ⟨its2, rv2, p2, l2⟩ := seqC I2 hqy
        refine zip_beginsS (begC c1 a its.toArray) (begC c2 b its2.toArray) p1 p2 fun h' hz hTI hTO h1 h2 hsz hk => pyIter_zipS hz ?_
        have I3 : L2.Inv X pins σ H2 { s2 with heap := h' } := I2.kept (t' := s2.toks) hk
        exact ⟨s2.heap.objs.size + 4, [s2.heap.objs.size + 4, s2.heap.objs.size + 2, s2.heap.objs.size + 3, s2.heap.objs.size, s2.heap.objs.size + 1], _, _, H2, rfl, I3, turn_z (apart_new l1 l2), ⟨hz, hTI, ⟨_, _, hTO⟩, itC0 h1, itC0 h2⟩, fresh5 I2, q⟩
end
end Dk
namespace Dk
open PySem PySem.Spec PyProof.Rows L2
variable {S : Type} [StK S]
def kindD : D → Option Bool
  | .list _ => some false
  | .tuple _ => some true
  | _ => none
def seqK : Bool → D → Option (List D)
  | false, .list ds => some ds
  | true, .tuple ds => some ds
  | _, _ => none
@[simp] theorem kindD_list {ds : List D} : kindD (.list ds) = some false := rfl
@[simp] theorem kindD_tuple {ds : List D} : kindD (.tuple ds) = some true := rfl
@[simp] theorem seqK_list {ds : List D} : seqK false (.list ds) = some ds := rfl
@[simp] theorem seqK_tuple {ds : List D} : seqK true (.tuple ds) = some ds := rfl
theorem seqK_some {c : Bool} {d : D} {ds : List D} (h : seqK c d = some ds) : (c = false ∧ d = .list ds) ∨ (c = true ∧ d = .tuple ds) := by
  unfold seqK at h
  split at h
  · cases h; exact .inl ⟨rfl, rfl⟩
  · cases h; exact .inr ⟨rfl, rfl⟩
  · cases h
section
variable {K : Fg} {H F : Hp} {d : D} {v : V} {c : Bool} {ds : List D}
theorem seqK_read (h : RdD K H F d v) (e : Le F H) (z : Szs H) (k : seqK c d = some ds) : ∃ a vs, v = .ref a ∧ SqC K H c a vs ∧ DRs K F ds vs ∧ ds.length ≤ sizeLine := by
  rcases seqK_some k with ⟨rfl, rfl⟩ | ⟨rfl, rfl⟩
  · obtain ⟨a, vs, h1, h2, h3⟩ := h.list e
    exact ⟨a, vs, h1, .inl (.inl h2), h3, by rw [← h3.len]; exact z.l h2⟩
  · obtain ⟨a, vs, h1, h2, h3⟩ := h.tuple e
    exact ⟨a, vs, h1, h2, h3, by rw [← h3.len]; exact z.t h2⟩
theorem kind_read (h : RdD K H F d v) (e : Le F H) (z : Szs H) (k : kindD d = some c) : ∃ a vs, v = .ref a ∧ SqC K H c a vs := by
  cases d with
  | list ds =>
    cases k
    obtain ⟨a, vs, h1, h2, _⟩ := seqK_read (c := false) (ds := ds) h e z rfl
    exact ⟨a, vs, h1, h2⟩
  | tuple ds =>
    cases k
    obtain ⟨a, vs, h1, h2, _⟩ := seqK_read (c := true) (ds := ds) h e z rfl
    exact ⟨a, vs, h1, h2⟩
  | _ => cases k
end
def enumL : Nat → List D → List D
  | _, [] => []
  | n, d :: ds => .tuple [.int n, d] :: enumL (n + 1) ds
theorem enumL_get : ∀ {ds : List D} {n i : Nat}, (enumL n ds)[i]? = (ds[i]?).map fun d => .tuple [.int (n + i : Nat), d]
  | [], n, i => by simp [enumL]
  | d :: ds, n, 0 => by simp [enumL]
  | d :: ds, n, i + 1 => by
    rw [enumL, List.getElem?_cons_succ, enumL_get, List.getElem?_cons_succ]
    rw [show n + 1 + i = n + (i + 1) by omega]
@[simp] theorem enumL_len : ∀ {ds : List D} {n : Nat}, (enumL n ds).length = ds.length
  | [], n => rfl
  | d :: ds, n => by rw [enumL, List.length_cons, enumL_len, List.length_cons]
def enumF (c : Bool) : List D → Option (List D)
  | [d] => (seqK c d).map (enumL 0)
  | _ => none
def pairL (xs ys : List D) : List D := List.zipWith (fun x y => .tuple [x, y]) xs ys
def zipF (st c1 c2 : Bool) : List D → Option (List D)
  | [d1, d2] => (seqK c1 d1).bind fun xs => (seqK c2 d2).bind fun ys => if st = true ∧ xs.length ≠ ys.length then none else some (pairL xs ys)
  | _ => none
section
variable {K : Fg}
theorem src_e {F0 : Hp} {c : Bool} {a : Addr} : SrcOk K F0 (ItE K c a) (enumF c) [.ref a] := by
  have inv : ∀ {ds items : List D}, enumF c ds = some items → ∃ d xs, ds = [d] ∧ seqK c d = some xs ∧ items = enumL 0 xs := fun {ds items} e => by
    unfold enumF at e
    split at e
    · obtain ⟨xs, h1, h2⟩ := Option.map_eq_some_iff.mp e
      exact ⟨_, xs, rfl, h1, h2.symm⟩
    · cases e
  refine ⟨fun H F ds items i d hz _ hF h e hi => ?_, fun H F ds items hz _ hF h e => ?_⟩
  · obtain ⟨d0, xs, rfl, h1, rfl⟩ := inv e
    obtain ⟨v, hv, h⟩ := h.one
    cases hv
    obtain ⟨a', vs, hv, hs, hr, _⟩ := seqK_read h hF hz h1
    cases hv
    rw [enumL_get] at hi
    obtain ⟨x, h2, h3⟩ := Option.map_eq_some_iff.mp hi
    obtain ⟨u, h4, h5⟩ := hr.get h2
    refine ⟨⟨vs, u, hs, h4⟩, fun y H' ⟨T, x', o, e1, e2, ⟨e3, e5⟩, e4⟩ => .inr ⟨T, [.int i, x], [.int i, x'], o, ?_, e1, e2, e3, ?_, by show 2 ≤ sizeLine; decide, e5⟩⟩
    · rw [← h3]
      simp
    · have := e4 vs hs
      rw [h4] at this
      cases this
      exact .cons (DR.int_.mpr rfl) (.cons h5 .nil)
  · obtain ⟨d0, xs, rfl, h1, rfl⟩ := inv e
    obtain ⟨v, hv, h⟩ := h.one
    cases hv
    obtain ⟨a', vs, hv, hs, hr, hl⟩ := seqK_read h hF hz h1
    cases hv
    rw [enumL_len]
    exact ⟨⟨vs, hs, hr.len.symm⟩, hl⟩
theorem src_z {F0 : Hp} {st c1 c2 : Bool} {a b : Addr} : SrcOk K F0 (ItZ K st c1 c2 a b) (zipF st c1 c2) [.ref a, .ref b] := by
  have inv : ∀ {ds items : List D}, zipF st c1 c2 ds = some items → ∃ d1 d2 xs ys, ds = [d1, d2] ∧ seqK c1 d1 = some xs ∧ seqK c2 d2 = some ys ∧ (st = true → xs.length = ys.length) ∧ items = pairL xs ys := fun {ds items} e => by
    unfold zipF at e
    split at e
    · obtain ⟨xs, h1, h2⟩ := Option.bind_eq_some_iff.mp e
      obtain ⟨ys, h3, h4⟩ := Option.bind_eq_some_iff.mp h2
      split at h4
      · cases h4
      · rename_i hn
        cases h4
        exact ⟨_, _, xs, ys, rfl, h1, h3, fun hs => by
          by_cases q : xs.length = ys.length
          · exact q
          · exact absurd ⟨hs, q⟩ hn, rfl⟩
    · cases e
  refine ⟨fun H F ds items i d hz _ hF h e hi => ?_, fun H F ds items hz _ hF h e => ?_⟩
  · obtain ⟨d1, d2, xs, ys, rfl, h1, h2, _, rfl⟩ := inv e
    obtain ⟨v, u, hv, r1, r2⟩ := h.two
    cases hv
    obtain ⟨a', vs, hv, hs, hr, _⟩ := seqK_read r1 hF hz h1
    cases hv
    obtain ⟨b', us, hv, hs2, hr2, _⟩ := seqK_read r2 hF hz h2
    cases hv
    unfold pairL at hi
    rw [List.getElem?_zipWith_eq_some] at hi
    obtain ⟨x, y, e1, e2, e3⟩ := hi
    obtain ⟨u1, k1, k2⟩ := hr.get e1
    obtain ⟨u2, k3, k4⟩ := hr2.get e2
    refine ⟨⟨vs, us, u1, u2, hs, hs2, k1, k3⟩, fun y' H' ⟨T, x1, y1, o, f1, f2, ⟨f3, f6⟩, f4, f5⟩ => .inr ⟨T, [x, y], [x1, y1], o, e3.symm, f1, f2, f3, ?_, by show 2 ≤ sizeLine; decide, f6⟩⟩
    have g1 := f4 vs hs
    rw [k1] at g1
    cases g1
    have g2 := f5 us hs2
    rw [k3] at g2
    cases g2
    exact .cons k2 (.cons k4 .nil)
  · obtain ⟨d1, d2, xs, ys, rfl, h1, h2, hl, rfl⟩ := inv e
    obtain ⟨v, u, hv, r1, r2⟩ := h.two
    cases hv
    obtain ⟨a', vs, hv, hs, hr, l1⟩ := seqK_read r1 hF hz h1
    cases hv
    obtain ⟨b', us, hv, hs2, hr2, l2⟩ := seqK_read r2 hF hz h2
    cases hv
    have m1 := hr.len
    have m2 := hr2.len
    have m : (pairL xs ys).length = min xs.length ys.length := by unfold pairL; rw [List.length_zipWith]
    refine ⟨⟨vs, us, hs, hs2, by omega, by omega, by omega, fun hst => ?_⟩, by omega⟩
    have := hl hst
    omega
end
section
variable {X : Cx} {a b : Expr} {t u : (OW S)} {ta : (AW S)} {p pos tpos kp kp2 : Pos} {elts : List Expr} {kk j : Nat}
def iEn (t : (AW S)) : (IW S) := fun ρ P => t ρ fun ks ρ1 => match ks with
  | [k] => gets ((k.rd ρ1).bind kindD) fun c => P ⟨[k], enumF c⟩ ρ1
  | _ => False
def iZp (st : Bool) (t : (AW S)) : (IW S) := fun ρ P => t ρ fun ks ρ1 => match ks with
  | [k, k2] => gets ((k.rd ρ1).bind kindD) fun c1 => gets ((k2.rd ρ1).bind kindD) fun c2 => P ⟨[k, k2], zipF st c1 c2⟩ ρ1
  | _ => False
theorem ci_enum (hm : X.mg "enumerate" = none) (ha : CA (S := S) X [a] ta) (hg : Gl X "enumerate" := by rfl) (hs : starEach [a] X.env = [(false, eval a X.env)] := by rfl) : CI (S := S) X (.Tuple elts kk tpos) (.Call (.Name "enumerate" p) [a] [] pos) (iEn ta) :=
  pi_mono (pi_e hg hm ha hs) fun σ H R ⟨B, pa, τ, F, ρ, θ, P, Rl, hl, h, q⟩ => by
    refine ⟨B, pa, τ, F, ρ, θ, _, Rl, hl, h, fun ks ρ1 vs H1 F1 h1 hl1 hk R1 s1 => ?_⟩
    cases ks with
    | nil => exact h1.elim
    | cons k ks =>
      cases ks with
      | cons _ _ => exact h1.elim
      | nil =>
        match vs, hk with
        | [v], _ =>
          obtain ⟨c, e, h1⟩ := gets_elim h1
          obtain ⟨d, e1, e2⟩ := Option.bind_eq_some_iff.mp e
          have hτ : τ.length = θ.length := by have := (R1.pops (by simp)).len; simp at this; omega
          have R2 : Rel X.K B pa (σ ++ (τ ++ [some v])) H1 F1 (ρ1.sl ++ (θ ++ [k.sl])) ρ1.pn := by
            have R3 := R1
            simp only [List.append_assoc] at R3
            exact R3
          have rd := read_at R2 hl1 τ.length (app_last _ _) (getN hτ.symm) (fun i q => s1 0 i v (by simp [q]) rfl) e1
          obtain ⟨a', xs, rfl, hs⟩ := kind_read rd R2.fh R2.sz e2
          exact ⟨a', c, xs, rfl, hs, q _ ρ1 [.ref a'] H1 F1 _ h1 hl1 rfl R1 s1 src_e⟩
theorem zip_step {K : Fg} {st : Bool} {ta : (AW S)} {σ : L2.St} {H : Hp} {R : It → Hp → Prop} (h : liftI K (iZp st ta) σ H R) : iZipC K st (liftA K ta) σ H R := by
  obtain ⟨B, pa, τ, F, ρ, θ, P, Rl, hl, h, q⟩ := h
  refine ⟨B, pa, τ, F, ρ, θ, _, Rl, hl, h, fun ks ρ1 vs H1 F1 h1 hl1 hk R1 s1 => ?_⟩
  match ks, vs, hk, h1, R1, s1 with
  | [k, k2], [v, v2], hk, h1, R1, s1 =>
    obtain ⟨c1, e, h1⟩ := gets_elim h1
    obtain ⟨c2, f, h1⟩ := gets_elim h1
    obtain ⟨d, e1, e2⟩ := Option.bind_eq_some_iff.mp e
    obtain ⟨d2, f1, f2⟩ := Option.bind_eq_some_iff.mp f
    have hτ : τ.length = θ.length := by have := (R1.pops (by simp)).len; simp at this; omega
    have R2 : Rel K B pa (σ ++ (τ ++ [some v, some v2])) H1 F1 (ρ1.sl ++ (θ ++ [k.sl, k2.sl])) ρ1.pn := by
      have R3 := R1
      simp only [List.append_assoc] at R3
      exact R3
    have rd := read_at R2 hl1 τ.length (by simp) (by rw [hτ]; simp) (fun i q => s1 0 i v (by simp [q]) rfl) e1
    have rd2 := read_at R2 hl1 (τ.length + 1) (by simp) (by rw [hτ]; simp) (fun i q => s1 1 i v2 (by simp [q]) rfl) f1
    obtain ⟨a', xs, rfl, hs⟩ := kind_read rd R2.fh R2.sz e2
    obtain ⟨b', ys, rfl, hs2⟩ := kind_read rd2 R2.fh R2.sz f2
    exact ⟨a', b', c1, c2, xs, ys, rfl, hs, hs2, q _ ρ1 _ H1 F1 _ h1 hl1 rfl R1 s1 src_z⟩
  | [], _, _, h1, _, _ => exact h1.elim
  | [_], _, _, h1, _, _ => exact h1.elim
  | _ :: _ :: _ :: _, _, _, h1, _, _ => exact h1.elim
theorem ci_zip (hm : X.mg "zip" = none) (ha : CA (S := S) X [a, b] ta) (hg : Gl X "zip" := by rfl) (hs : starEach [a, b] X.env = (false, eval a X.env) :: starEach [b] X.env := by rfl) (hpl : (backTo pos (starEach [b] X.env)).any (·.1) = false := by rfl) :
    CI (S := S) X (.Tuple elts kk tpos) (.Call (.Name "zip" p) [a, b] [] pos) (iZp false ta) := pi_mono (pi_z hg hm ha hs hpl) fun _ _ _ h => zip_step h
theorem ci_zipS (hm : X.mg "zip" = none) (ha : CA (S := S) X [a, b] ta) (hg : Gl X "zip" := by rfl) (he : backTo pos (starEach [a, b] X.env) = (false, eval a X.env) :: backTo pos (starEach [b] X.env) := by rfl) (hpl : (backTo pos (starEach [a, b] X.env)).any (·.1) = false := by rfl) :
    CI (S := S) X (.Tuple elts kk tpos) (.Call (.Name "zip" p) [a, b] [⟨some (Str.ofString "strict"), .Constant (.bool true) j kp, kp2⟩] pos) (iZp true ta) := pi_mono (pi_zS hg hm ha he hpl) fun _ _ _ h => zip_step h
end
end Dk
namespace Dk
open PySem PySem.Spec PyProof.Rows L2
variable {S : Type} [StK S]
structure Dfn (K : Fg) (mg : Str → Option Value) (x : Str) (st : Stmt) (f : Addr) (fd : FuncData) : Prop where
  F : FunD K x x (defArgs st) (defBody st) (defScope st) [] [] f fd
  m : mg x = some (.ref f)
abbrev bltNames : List Str := ["len", "list", "tuple", "sum", "max", "min", "all", "any", "int", "abs", "repr", "isinstance", "range", "zip", "enumerate", "str", "bool", "dict", "set", "sorted"]
def Blt (mg : Str → Option Value) : Prop := ∀ x ∈ bltNames, mg x = none
theorem Blt.get {mg : Str → Option Value} (B : Blt mg) (x : Str) (h : x ∈ bltNames := by decide +kernel) : mg x = none := B x h
def oVal (t : (DW S)) : (OW S) := fun ρ P => t ρ fun r ρ' => P (.tmp (.val r.d)) ρ'
theorem co_val {X : Cx} {e : Expr} {t : (DW S)} (h : CE (S := S) X e t) : CO (S := S) X e (oVal t) := ce_cv h
def mkT (ds : List D) : Rs := .val (.tuple ds)
theorem FnD.mkD [NoTag S] {P : Program} {w : World} {K : Fg} {mg : Str → Option Value} {base : Heap} {x : Str} {st : Stmt} {f : Addr} {fd : FuncData} {N ps : List Str} {k : Nat} {dsp : DSp S} {t : (DS S)} (Fu : Dfn K mg x st f fd) (Sc : FnScope N ps (defScope st))
    (hbody : ∀ (cdv : Value) (A : Around) (outer : List Env) (s : Shared) (H : Hp) (E : XK), XO (cx0 P w K mg base N x (defScope st) f cdv A outer s H E) k → CSs (S := S) (cx0 P w K mg base N x (defScope st) f cdv A outer s H E) (defBody st) t)
    (hlaw : ∀ as pn Q, as.length = ps.length → dsp as pn Q → t { nx := fun ρ => Q .none ρ.pn, rt := Q } ⟨startD N.length as, pn⟩) : FnD P w K mg base (k + 1) f fd ps dsp := by
  obtain ⟨oc, od, dV, kV, doc, pm, an, cdv, ct, osl, rfl, lk, hcd, hD, _⟩ := Fu.F.ex
  refine fng_of lk hcd Sc (fun vs H Q E ⟨F, pa, T, as, pn, P, _, _, h, _, _, hl, _⟩ => by rw [h.len, hl]) fun A outer s H vs Q E hr hgd hsp => ?_
  obtain ⟨F, pa, T, as, pn, PQ, hz, hF, ha, hp, hpl', hl, hd, q⟩ := hsp
  have X0 : XO (cx0 P w K mg base N x (defScope st) f cdv A outer s H E) k := ⟨rfl, hr, hgd, Sc.nd, PassesOwn.never⟩
  refine ⟨_, (hbody cdv A outer s H E X0).nox, ⟨H, F, T⟩, pa, [], F, ⟨startD N.length as, pn⟩, [], _, by
    have h := rel_start (N := N) hz hF ha hp hpl'
    rw [List.append_nil, List.append_nil]
    exact h, by
      have hpl : ps.length ≤ N.length := by have := congrArg List.length Sc.pre; rw [List.length_take] at this; omega
      simp [L2.start, startD, ha.len], hlaw as pn PQ hl hd, ?_⟩
  exact ⟨fun σ ρ H' F' h _ _ R => rel_end q h (R.pushVal (d := .none) (v := .non) (DR.non_.mpr rfl)), fun _ _ _ _ h => h.elim, fun _ _ _ _ h => h.elim, fun zs ws d pn v H' F' h R => rel_end q h R, fun _ _ _ _ _ _ _ z => z.elim⟩
end Dk
namespace HT
open PySem PySem.Calls PySem.Spec PyProof.Rows
section
variable {prog : Program} {w : World} {A : Around} {E : Value → Shared → Prop} {s : Shared}
end
end HT
namespace Dk
open PySem PySem.Spec PyProof.Rows L2
variable {S : Type} [StK S]
section
variable {X : Cx} {e : Expr} {t : (OW S)} {k : Nat} {p1 p2 p3 pos : Pos}
def revD : D → Option Rs
  | .list ds => some (.own ds.reverse)
  | .tuple ds => some (.val (.tuple ds.reverse))
  | _ => none
@[simp] theorem revD_list {ds : List D} : revD (.list ds) = some (.own ds.reverse) := rfl
@[simp] theorem revD_tuple {ds : List D} : revD (.tuple ds) = some (.val (.tuple ds.reverse)) := rfl
theorem tuple_mul1 (l : Addr) (items : Array Value) (n : Nat) (dd : Option Addr) (sl : Array (Option Value)) (u : Tok) :
    Meets (Builtin.«tuple.__mul__» ⟨[.ref l, .int 1 u], []⟩) (fun _ R s => s.heap.get? l = some { cls := .type "tuple", dict := dd, data := .seq items n, slots := sl } ∧ R (.ok (.ret (Value.ref l))) s) :=
  .of_wp fun prog w A R s h => by
    obtain ⟨hp, g, d, tk, os⟩ := s
    obtain ⟨hl, h⟩ := h
    have f1 := AutoSeq1.idx_int
    have c0 : ((1 : Int) < -(2 ^ 63) || (1 : Int) ≥ 2 ^ 63) = false := by decide
    wp_walk using wpAny_loadPart' hl
    repeat (first
      | (refine wpAny_ite_true (by simp) ?_; wp_walk using wpAny_loadPart' hl)
      | (refine wpAny_ite_false (by decide) ?_; wp_walk using wpAny_loadPart' hl))
    exact ⟨_, rfl, h⟩
theorem op_rep1 : OpR X (binaryOp .Mult) (fun x y H Q => ∃ l xs, x = .ref l ∧ y = .int 1 ∧ SqT X.K H l xs ∧ Q (.ref l) H) := by
  intro pins s σ H x y v u Q I rx ry h
  obtain ⟨l, xs, rfl, rfl, hT, q⟩ := h
  cases rx
  obtain ⟨t, rfl⟩ := ry
  obtain ⟨its, r, ⟨⟨cls, dd, data, sl⟩, ho, hc, n, hd⟩, hs⟩ := I.tuple hT
  simp only at hc hd
  subst hc hd
  exact wpAny_binaryOp_repeat_ref (T := "tuple") (U := "int") (by decide) ⟨_, ho, rfl⟩ (fun s' => typeIs_int s' 1 t) noFill_tuple_mul F.fills_int_mul F.slot_int_rmul repeat_tuple F.slot_int_index.lookup
    (call_meets F.slot_int_rmul (typeIs_int s 1 t) F.entry_int_rmul (F.args_int_rmul_2 _ _) (int_rmul_tuple 1 t l its.toArray n dd sl)
      ⟨ho, rfl, ⟨_, ho, rfl⟩, call_meets F.slot_tuple_mul ⟨_, ho, rfl⟩ F.entry_tuple_mul (F.args_tuple_mul_2 _ _) (tuple_mul1 l its.toArray n dd sl t) ⟨ho, .ref l, H, I, rfl, q⟩⟩)
def mulT : D → D → Option Rs
  | .tuple xs, .int k => if xs ≠ [] ∧ 1 ≤ k ∧ k ≤ 1000 ∧ xs.length ≤ 1000 then some (.val (.tuple (List.replicate k.toNat xs).flatten)) else none
  | a, b => mulD a b
theorem od_mulT : OpD X (binaryOp .Mult) mulT := by
  intro pins s σ H x y v u Q I rx ry ⟨F, d, e, r, ⟨hz0, hF⟩, hd, he, hg, q⟩
  unfold mulT at hg
  split at hg
  · split at hg
    · rename_i xs k hc
      cases hg
      by_cases hk : k = 1
      · subst hk
        have hdr : DR X.K F (.tuple xs) x := by
          rcases hd with hd | ⟨ds, a, vs, e, _⟩
          · exact hd
          · cases e
        obtain ⟨a, vs, rfl, ha, ra⟩ := (RdD.tuple hd hF : _)
        refine op_rep1 pins s σ H _ y v u Q I rx ry ⟨a, vs, rfl, he.int, ha, q.1 _ ?_⟩
        have e1 : (List.replicate (Int.toNat 1) xs).flatten = xs := by simp
        rw [e1]
        exact hdr
      · obtain ⟨a, vs, rfl, ha, ra⟩ := hd.tuple hF
        have hl := ra.len
        refine op_repC pins s σ H _ y v u Q I rx ry ⟨a, _, vs, rfl, he.int, ha, fun e => hc.1 (by subst e; exact List.length_eq_zero_iff.mp (by simpa using hl.symm)), by omega, hc.2.2.1, by rw [hl]; exact hc.2.2.2, q.2.1 _ _ rfl (ra.rep _) ?_⟩
        rw [len_rep, hl, sizeLine_eq]
        exact Nat.le_trans (show _ ≤ 1000 * 1000 from Nat.mul_le_mul (by omega) hc.2.2.2) (by omega)
    · cases hg
  · exact od_mul pins s σ H x y v u Q I rx ry ⟨F, d, e, r, ⟨hz0, hF⟩, hd, he, hg, q⟩
end
end Dk
namespace Dk
open PySem PySem.Spec PyProof.Rows L2
variable {S : Type}
def isPen (ρ : List Sl) (i : Nat) : Bool := match ρ[i]? with
  | some .pen => true
  | _ => false
theorem isPen_some {ρ : List Sl} {i : Nat} (h : isPen ρ i = true) : ρ[i]? = some .pen := by
  unfold isPen at h
  split at h
  · assumption
  · cases h
def scr? (ρ : List Sl) (i : Nat) : Option (List Int) := match ρ[i]? with
  | some (.scr ns) => some ns
  | _ => none
theorem scr?_some {ρ : List Sl} {i : Nat} {ns : List Int} (h : scr? ρ i = some ns) : ρ[i]? = some (.scr ns) := by
  unfold scr? at h
  split at h
  · cases h; assumption
  · cases h
def penD (p : Pen) : Int → Option D
  | 0 => some (.list (p.cells.map .int))
  | 1 => some (.int p.at_)
  | 2 => some (.int p.cur)
  | _ => none
def penSet (p : Pen) (z : Int) : Int → Option Pen
  | 1 => some { p with at_ := z }
  | 2 => some { p with cur := z }
  | _ => none
section
variable {K : Fg} {B : Bs} {pa : Option Addr} {zs : List (Option V)} {H F : Hp} {ws : List Sl}
theorem Rel.penR {S : Type} [PenK S] {pn : S} (R : Rel K B pa zs H F ws pn) : PenR K F H pa (PenK.get pn) := by
  obtain ⟨T, t⟩ := R.st
  exact (PenK.pen t.r).1
theorem Rel.penW {S : Type} [PenK S] {pn : S} {p : Pen} (R : Rel K B pa zs H F ws pn) {a c : Addr} (hp : pa = some a) (hH : H a = some (.lst [.ref c, .int p.at_, .int p.cur])) (hg : PenK.get pn = some p) (x y : Int) : Rel K B pa zs (upd H a (.lst [.ref c, .int x, .int y])) F ws (PenK.set (some { p with at_ := x, cur := y }) pn) := by
  obtain ⟨T, t⟩ := R.st
  obtain ⟨pr, pt⟩ := PenK.pen t.r
  rw [hg] at pr
  obtain ⟨a', c', q1, q2, q3, q4⟩ := pr
  rw [hp] at q1
  cases q1
  rw [hH] at q2
  cases q2
  have ht := pt a hp
  have hr : StK.R K pa (upd H a (.lst [.ref c, .int x, .int y])) F (PenK.set (some { p with at_ := x, cur := y }) pn) T :=
    PenK.up t.r (fun b _ n => upd_ne fun z => n (by rw [z]; exact hp)) (Le.refl _) t.fn ⟨a, c, hp, upd_same, q3, q4⟩
  refine R.called t (fun b u e n => ?_) (Le.refl _) (fun b u e => ?_) (fun b u e => .inl e) hr (fun b hb => .inl hb) (fun b hb => ?_) t.fn (fun b hb => ?_) (R.sz.upL (by show 3 ≤ sizeLine; decide)) (PenK.tagS _ _)
  · rw [upd_ne fun z => n (by rw [z]; exact ht)]; exact e
  · rw [upd_ne fun z => by rw [z, q3] at e; cases e]; exact R.fh _ _ e
  · by_cases e : b = a
    · rw [e, upd_same]; exact nofun
    · rw [upd_ne e]; exact t.hn b hb
  · by_cases e : b = a
    · rw [e, upd_same]; exact nofun
    · rw [upd_ne e]; exact hb
end
section
variable {S : Type} [PenK S] {X : Cx} {e : Expr} {k : Nat} {pos p1 p2 p3 : Pos} {te : (DW S)}
theorem pen_slot {S : Type} [StK S] {K : Fg} {B : Bs} {pa : Option Addr} {σ : L2.St} {τ : List (Option V)} {H F : Hp} {ρ θ : List Sl} {pn : S} {i : Nat} (R : Rel K B pa (σ ++ τ) H F (ρ ++ θ) pn) (hl : ρ.length = σ.length) (h : isPen ρ i = true) : ∃ a, pa = some a ∧ σ[i]? = some (some (.ref a)) := by
  have h := isPen_some h
  have hi := (List.getElem?_eq_some_iff.mp h).1
  obtain ⟨o, h1, a, h2, h3⟩ := R.sl i .pen (by rw [List.getElem?_append_left hi]; exact h)
  subst h3
  exact ⟨a, h2, left_get (by omega) h1⟩
def dPen (i : Nat) (j : Int) : (DW S) := fun ρ P => isPen ρ.sl i = true ∧ gets (PenK.get ρ.pn) fun p => gets (penD p j) fun d => P (.val d) ρ
theorem ce_pen (i : Nat) {x : Str} {j : Int} (hN : X.N[i]? = some x := by rfl) (hv : Vis X.env.scope x := by first | exact Or.inl rfl | exact Or.inr (Or.inl rfl) | exact Or.inr (Or.inr rfl)) (hd : (x == ("__debug__" : Str)) = false := by decide) (hcd : (x == ("__classdict__" : Str)) = false := by decide) :
    CE (S := S) X (.Subscript (.Name x p1) (.Constant (.int j) k p2) pos) (dPen i j) := pe_mono (pe_ix ix_list (pe_var hN hv hd hcd) pe_int (fun _ _ => rfl)) fun σ H Q h => by
  obtain ⟨B, pa, τ, F, ρ, θ, P, R, hl, ⟨h0, h⟩, q⟩ := toE h
  obtain ⟨p, hp, h⟩ := gets_elim h
  obtain ⟨d, hj, h⟩ := gets_elim h
  obtain ⟨a, ha, hs⟩ := pen_slot R hl h0
  have hpn : PenR X.K F H pa (PenK.get ρ.pn) := R.penR
  rw [hp] at hpn
  obtain ⟨a', c, q1, q2, q3, q4⟩ := hpn
  rw [ha] at q1
  cases q1
  have fin : ∀ w, DR X.K F d w → Q w H := fun w hw => q (.val d) ρ w H F h hl (R.pushVal hw)
  unfold penD at hj
  split at hj
  · cases hj
    exact ⟨.ref a, hs, a, _, _, .ref c, rfl, rfl, .inl (.inl q2), rfl, fin _ (DR.list_.mpr ⟨c, _, rfl, q4, DRs.of_ints _⟩)⟩
  · cases hj
    exact ⟨.ref a, hs, a, _, _, .int p.at_, rfl, rfl, .inl (.inl q2), rfl, fin _ (DR.int_.mpr rfl)⟩
  · cases hj
    exact ⟨.ref a, hs, a, _, _, .int p.cur, rfl, rfl, .inl (.inl q2), rfl, fin _ (DR.int_.mpr rfl)⟩
  · cases hj
def dPenSet (i : Nat) (j : Int) (te : (DW S)) : (DS S) := fun E ρ => te ρ fun r ρ1 => isPen ρ1.sl i = true ∧ gets (PenK.get ρ1.pn) fun p => gets (D.int? r.d) fun z => gets (penSet p z j) fun p' => E.nx { ρ1 with pn := PenK.set (some p') ρ1.pn }
theorem cs_setPen (i : Nat) {x : Str} {j : Int} (he : CE (S := S) X e te) (hN : X.N[i]? = some x := by rfl) (hv : Vis X.env.scope x := by first | exact Or.inl rfl | exact Or.inr (Or.inl rfl) | exact Or.inr (Or.inr rfl)) (hd : (x == ("__debug__" : Str)) = false := by decide) (hcd : (x == ("__classdict__" : Str)) = false := by decide)
    (hA : ∀ v, assign (.Subscript (.Name x p1) (.Constant (.int j) k p3) p2) X.env v = (do
      let ov ← holding [v] (eval (.Name x p1) X.env)
      let iv ← holding [v, ov] (eval (.Constant (.int j) k p3) X.env)
      standAt p2
      holding [v, ov, iv] (setItem ov iv v)
      release [v, ov, iv] []) := by intro _; rfl)
    (hs : swapsWithSole [.Subscript (.Name x p1) (.Constant (.int j) k p3) p2] e pos.line X.env = pure false := by rfl) (hw : swappedStores [.Subscript (.Name x p1) (.Constant (.int j) k p3) p2] e X.env = pure none := by rfl) (hq : (assignEach [.Subscript (.Name x p1) (.Constant (.int j) k p3) p2] X.env).map (·.2) = [assign (.Subscript (.Name x p1) (.Constant (.int j) k p3) p2) X.env] := by rfl) :
    CS (S := S) X (.Assign [.Subscript (.Name x p1) (.Constant (.int j) k p3) p2] e pos) (dPenSet i j te) :=
  ps_mono (ps_asg he (pg_sub (pe_var hN hv hd hcd) pe_int set_list hA) hs hw hq) fun Z σ H ⟨B, pa, τ, F, ρ, θ, E, R, hl, h, q⟩ =>
    ofE ⟨B, pa, τ, F, ρ, θ, _, R, hl, h, fun r ρ1 v H1 F1 h1 l1 R1 => by
      obtain ⟨F2, _, R2⟩ := freezeLast R1
      obtain ⟨h0, h1⟩ := h1
      obtain ⟨p, hp, h1⟩ := gets_elim h1
      obtain ⟨z, hz, h1⟩ := gets_elim h1
      obtain ⟨p', hp', h1⟩ := gets_elim h1
      have ez := D.int?_some hz
      rw [ez] at R2
      obtain ⟨⟨v', e', hv'⟩, _⟩ := Rel.last (s := .val (.int z)) R2
      cases e'
      have ev := DR.int_.mp hv'
      subst ev
      have R3 := R2.pop
      obtain ⟨a, ha, hsl⟩ := pen_slot R3 l1 h0
      have hpn : PenR X.K F2 H1 pa (PenK.get ρ1.pn) := R3.penR
      rw [hp] at hpn
      obtain ⟨a', c, q1, q2, q3, q4⟩ := hpn
      rw [ha] at q1
      cases q1
      unfold penSet at hp'
      split at hp'
      · cases hp'
        exact ⟨.ref a, hsl, a, _, _, 1, rfl, rfl, q2, rfl, q.nx σ { ρ1 with pn := PenK.set (some { p with at_ := z }) ρ1.pn } _ F2 h1 rfl l1 (R3.penW ha q2 hp z p.cur)⟩
      · cases hp'
        exact ⟨.ref a, hsl, a, _, _, 2, rfl, rfl, q2, rfl, q.nx σ { ρ1 with pn := PenK.set (some { p with cur := z }) ρ1.pn } _ F2 h1 rfl l1 (R3.penW ha q2 hp p.at_ z)⟩
      · cases hp'⟩
def dScr (i : Nat) (lo hi : (PW_ S)) : (DW S) := fun ρ P => (scr? ρ.sl i).isSome = true ∧ lo ρ fun l ρ2 => hi ρ2 fun h ρ3 => gets (scr? ρ3.sl i) fun ns => P (.own (cutD (ns.map .int) l h)) ρ3
theorem ce_scr (i : Nat) {x : Str} {lo hi : Option Expr} {tl th : (PW_ S)} (hl : CP (S := S) X lo tl) (hh : CP (S := S) X hi th) (hN : X.N[i]? = some x := by rfl) (hv : Vis X.env.scope x := by first | exact Or.inl rfl | exact Or.inr (Or.inl rfl) | exact Or.inr (Or.inr rfl)) (hd : (x == ("__debug__" : Str)) = false := by decide) (hcd : (x == ("__classdict__" : Str)) = false := by decide) :
    CE (S := S) X (.Subscript (.Name x p1) (.Slice lo hi none p2) pos) (dScr i tl th) := pe_mono (pe_slice sl_list (pe_var hN hv hd hcd) hl hh) fun σ H Q h => by
  obtain ⟨B, pa, τ, F, ρ, θ, P, R, hl, ⟨h0, h⟩, q⟩ := toE h
  have at_ : ∀ {H F : Hp} {ρ : (En S)} {ns : List Int}, Rel X.K B pa (σ ++ τ) H F (ρ.sl ++ θ) ρ.pn → ρ.sl.length = σ.length → scr? ρ.sl i = some ns → ∃ a, σ[i]? = some (some (.ref a)) ∧ SqL X.K H a (ns.map .int) := fun {H F ρ ns} R hl h => by
    have h := scr?_some h
    have hi := (List.getElem?_eq_some_iff.mp h).1
    obtain ⟨o, h1, a, h2, h3⟩ := R.sl i (.scr ns) (by rw [List.getElem?_append_left hi]; exact h)
    subst h2
    exact ⟨a, left_get (by omega) h1, R.scrH h3⟩
  obtain ⟨ns0, e0⟩ := Option.isSome_iff_exists.mp h0
  obtain ⟨a, s0, _⟩ := at_ R hl e0
  refine ⟨.ref a, s0, B, pa, τ, F, ρ, θ, _, R, hl, h, fun l ρ2 H2 F2 h2 hl2 R2 => ?_⟩
  refine ⟨B, pa, τ, F2, ρ2, θ, _, R2, hl2, h2, fun u ρ3 H3 F3 h3 hl3 R3 => ?_⟩
  obtain ⟨ns, e1, h3⟩ := gets_elim h3
  obtain ⟨a', s1, hs⟩ := at_ R3 hl3 e1
  rw [s0] at s1
  cases s1
  refine ⟨a, _, rfl, hs, fun p hp => ?_⟩
  have hd : DRs X.K F3 (cutD (ns.map .int) l u) (cutV (ns.map .int) l u) := (DRs.of_ints ns).cut l u
  have hz : (cutV (ns.map V.int) l u).length ≤ sizeLine := by
    refine Nat.le_trans (cutV_length _ l u) ?_
    rcases hs with hs | ⟨o, its, n, _, _, _, _, hz, r⟩
    · rcases hs with hs | ⟨o, hs⟩
      · exact R3.sz a _ (.inl hs)
      · exact R3.sz a _ (.inr (.inl ⟨o, hs⟩))
    · have := r.length
      simp at this hz ⊢
      omega
  exact q (.own (cutD (ns.map .int) l u)) ρ3 _ _ F3 h3 hl3 (R3.pushOwn hp hd hz)
end
end Dk
namespace Dk
open PySem PySem.Spec PyProof.Rows L2
def penL (cells : List Int) : D := .list [.list (cells.map .int), .int 0, .int 0]
def law0 (n : Nat) : List Sl := (List.replicate n .un).set 1 .pen
def spLaw (K : Fg) : Sp := fun vs H Q _ => ∃ (a : Addr) (ns : List Int), vs = [.ref a] ∧ SqL K H a (ns.map V.int) ∧ Szs H ∧ ∀ H', Q (.bl true) H'
theorem adopt {K : Fg} {H H2 F2 : Hp} {σ : L2.St} {n : Nat} {ns cells : List Int} (hn : 2 ≤ n) {T : Addr → Prop} (R : Rel K ⟨H, fun _ => none, T⟩ none σ H2 F2 ((startD n [.scr ns]).set 1 (.val (penL cells))) (none : Option Pen)) :
    ∃ p F', Rel K ⟨fun _ => none, fun _ => none, fun _ => False⟩ (some p) σ H2 F' (law0 n) (some ⟨cells, 0, 0⟩ : Option Pen) := by
  have hl : (startD n [.scr ns]).length = n := by simp [startD]; omega
  obtain ⟨o, h1, v, rfl, hd⟩ := R.sl 1 (.val (penL cells)) (by rw [List.getElem?_set_self (by omega)])
  obtain ⟨p, vs, rfl, hp, hr⟩ := DR.list_.mp hd
  obtain ⟨v1, r1, rfl, d1, hr⟩ := DRs.cons_.mp hr
  obtain ⟨v2, r2, rfl, d2, hr⟩ := DRs.cons_.mp hr
  obtain ⟨v3, r3, rfl, d3, hr⟩ := DRs.cons_.mp hr
  cases DRs.nil_.mp hr
  cases DR.int_.mp d2
  cases DR.int_.mp d3
  obtain ⟨c, us, rfl, hc, hu⟩ := DR.list_.mp d1
  have eu := DRs.ints hu
  subst eu
  have hpc : p ≠ c := fun e => by
    rw [e, hc] at hp
    cases cells with
    | nil => cases hp
    | cons x r => cases hp
  refine ⟨p, fun b => if b = c then some (.lst (cells.map V.int)) else none, ?_⟩
  have noown : ∀ (i : Nat) (xs : List D), (law0 n)[i]? ≠ some (.own xs) := fun i xs e1 => by
    unfold law0 at e1
    by_cases hi : i = 1
    · subst hi
      rw [List.getElem?_set_self (by rw [List.length_replicate]; omega)] at e1
      cases e1
    · rw [List.getElem?_set_ne (Ne.symm hi), List.getElem?_replicate] at e1
      split at e1 <;> cases e1
  refine ⟨by rw [R.len]; simp [law0, hl], fun b o e => ?_, fun b o e => (nomatch e), fun b o e => (nomatch e), fun b o e => .inr (.inl rfl), fun i s e => ?_, fun i j xs ys a e1 => absurd e1 (noown i xs), ⟨fun b => some p = some b, ⟨⟨p, c, rfl, R.fh _ _ hp, if_neg hpc, if_pos rfl⟩, rfl⟩, fun b hb => ?_, fun b hb => ?_, fun b hb => .inl rfl, fun i xs a e1 _ => absurd e1 (noown i xs)⟩, fun a e => e.elim, R.sz, fun r e => nomatch e⟩
  · by_cases hb : b = c
    · rw [if_pos hb] at e
      cases e
      rw [hb]
      exact R.fh _ _ hc
    · rw [if_neg hb] at e
      cases e
  · unfold law0 at e
    by_cases hi : i = 1
    · subst hi
      rw [List.getElem?_set_self (by rw [List.length_replicate]; omega)] at e
      cases e
      exact ⟨_, h1, p, rfl, rfl⟩
    · rw [List.getElem?_set_ne (Ne.symm hi), List.getElem?_replicate] at e
      split at e
      · rename_i hlt
        cases e
        have : i < σ.length := by rw [R.len]; simp [hl]; exact hlt
        exact ⟨σ[i], List.getElem?_eq_getElem this, trivial⟩
      · cases e
  · cases hb
    rw [R.fh _ _ hp]
    exact nofun
  · cases hb
    exact if_neg hpc
theorem law_mk {P : Program} {w : World} {K : Fg} {mg : Str → Option Value} {base : Heap} {x : Str} {st s0 : Stmt} {rest : List Stmt} {f : Addr} {fd : FuncData} {N : List Str} {p0 : Str} {k : Nat} {sOpen : DSp} {u : DS} (Fu : Dfn K mg x st f fd) (S : FnScope N [p0] (defScope st))
    (hb : defBody st = s0 :: rest) (hn : 2 ≤ N.length)
    (h0 : ∀ (cdv : Value) (A : Around) (outer : List Env) (s : Shared) (H : Hp) (E : XK), XO (cx0 P w K mg base N x (defScope st) f cdv A outer s H E) k → CS (cx0 P w K mg base N x (defScope st) f cdv A outer s H E) s0 (dSet 1 (dCall 1 sOpen (aCons (oSlot 0) aNil))))
    (hr : ∀ (cdv : Value) (A : Around) (outer : List Env) (s : Shared) (H : Hp) (E : XK), XO (cx0 P w K mg base N x (defScope st) f cdv A outer s H E) k → CSs (cx0 P w K mg base N x (defScope st) f cdv A outer s H E) rest u)
    (hopen : ∀ (ns : List Int) (Q : D → Option Pen → Prop), (∀ cells, Q (penL cells) none) → sOpen [.scr ns] none Q)
    (hlaw : ∀ cells : List Int, u { nx := fun _ => False, rt := fun d _ => d = .bool true } ⟨law0 N.length, some ⟨cells, 0, 0⟩⟩) : FnG P w K mg base CX0 (k + 1) f fd [p0] (spLaw K) := by
  obtain ⟨oc, od, dV, kV, doc, pm, an, cdv, ct, osl, rfl, lk, hcd, hD, _⟩ := Fu.F.ex
  refine fng_of lk hcd S (fun vs H Q E ⟨a, ns, e, _⟩ => by rw [e]; rfl) fun A outer s H vs Q E hroom hgd hsp => ?_
  obtain ⟨a, ns, rfl, hS, hz, q⟩ := hsp
  have X0 : XO (cx0 P w K mg base N x (defScope st) f cdv A outer s H E) k := ⟨rfl, hroom, hgd, S.nd, PassesOwn.never⟩
  have hw := pss_cons (h0 cdv A outer s H E X0) (hr cdv A outer s H E X0)
  rw [← hb] at hw
  refine ⟨_, hw.nox, ?_⟩
  have hl : (startD N.length [.scr ns]).length = N.length := by simp [startD]; omega
  have hS2 : ScrR K H (fun b => (none : Option Addr) = some b) a ns := by
    rcases hS with hS | hS
    · exact .inl ⟨hS, nofun⟩
    · exact .inr (.inr hS)
  have R0 : Rel K ⟨H, fun _ => none, fun b => (none : Option Addr) = some b⟩ none (L2.start N [.ref a]) H (fun _ => none) (startD N.length [.scr ns]) (none : Option Pen) :=
    rel_start hz (fun b o e => (nomatch e)) ⟨.ref a, [], rfl, ⟨a, rfl, hS2⟩, rfl⟩ ⟨trivial, rfl⟩ (fun a e => (nomatch e))
  refine ⟨⟨H, fun _ => none, fun b => (none : Option Addr) = some b⟩, none, [], fun _ => none, ⟨startD N.length [.scr ns], none⟩, [], { nx := fun ρ1 => ∃ cells, ρ1 = ⟨(startD N.length [.scr ns]).set 1 (.val (penL cells)), none⟩, rt := fun _ _ => False }, ?_, by simp [hl, L2.start]; omega, ?_, ?_⟩
  · rw [List.append_nil, List.append_nil]
    exact R0
  · have hget : (startD N.length [.scr ns])[0]? = some (.scr ns) := by simp [startD, Arg.sl]
    show hasS (startD N.length [.scr ns]) 0 = true ∧ _
    refine ⟨by unfold hasS; rw [hget], ?_⟩
    show gets (toArgs (⟨startD N.length [.scr ns], none⟩ : En) [.slot 0]) fun as => as.length = 1 ∧ sOpen as none fun d pn' => ∃ cells, (⟨(startD N.length [.scr ns]).set 1 (.val d), pn'⟩ : En) = ⟨(startD N.length [.scr ns]).set 1 (.val (penL cells)), none⟩
    have e : toArgs (⟨startD N.length [.scr ns], none⟩ : En) [.slot 0] = some [.scr ns] := by
      show (((startD N.length [.scr ns])[0]?).bind slArg).bind (fun a => (some []).bind fun as => some (a :: as)) = _
      rw [hget]
      rfl
    rw [e]
    exact ⟨rfl, hopen ns _ fun cells => ⟨cells, rfl⟩⟩
  · refine ⟨fun σ ρ H2 F2 h l1 l2 R => ?_, fun _ _ _ _ h => h.elim, fun _ _ _ _ h => h.elim, fun _ _ _ _ _ _ _ h => h.elim, fun _ _ _ _ _ _ _ h => h.elim⟩
    obtain ⟨cells, rfl⟩ := h
    rw [List.append_nil, List.append_nil] at R
    obtain ⟨p, F', R'⟩ := adopt hn R
    refine ⟨⟨fun _ => none, fun _ => none, fun _ => False⟩, some p, [], F', ⟨law0 N.length, some ⟨cells, 0, 0⟩⟩, [], _, by rw [List.append_nil, List.append_nil]; exact R', by rw [R'.len], hlaw cells, ?_⟩
    refine ⟨fun _ _ _ _ h => h.elim, fun _ _ _ _ h => h.elim, fun _ _ _ _ h => h.elim, fun zs ws d pn v H3 F3 h R3 => ?_, fun _ _ _ _ _ _ _ h => h.elim⟩
    have h : d = .bool true := h
    subst h
    obtain ⟨⟨v', e', hd⟩, _⟩ := Rel.last (s := .val (.bool true)) R3
    cases e'
    rw [DR.bl_.mp hd]
    exact q H3
end Dk
namespace Dk
open PySem PySem.Spec PyProof.Rows L2
section
variable {P : Program} {w : World} {K : Fg} {mg mb : Str → Option Value} {k : Nat} {fa a : Addr} {fd : FuncData} {x : Str} {s : Shared} {vs : List Value} {ns : List Int}
def scriptH (K : Fg) (a : Addr) (vs : List Value) (ns : List Int) : Hp := fun b => if b = a ∧ K.lookup a = none then some (.frz { cls := .type "list", data := .seq vs.toArray } (.lst (ns.map V.int))) else none
theorem scriptH_some {b : Addr} {o : HO} (h : scriptH K a vs ns b = some o) : b = a ∧ K.lookup a = none ∧ o = .frz { cls := .type "list", data := .seq vs.toArray } (.lst (ns.map V.int)) := by
  unfold scriptH at h
  split at h
  · rename_i c
    cases h
    exact ⟨c.1, c.2, rfl⟩
  · cases h
theorem law_end (KX : K.In s.heap) (hns : s.heap.Ns mainGlobals mg) (hb : s.heap.Ns builtinsNs mb) (hbb : ∀ x : Str, x ≠ "__name__" → mb x = bootBuiltins x) (hlim : s.heap.NoLimit) (hg : s.gens = #[])
    (ha : s.heap.get? a = some { cls := .type "list", data := .seq vs.toArray }) (hi : IntsAre vs ns) (hl : ns.length ≤ sizeLine) (hr : Room k callerA)
    (F : ∀ base : Heap, K.In base → base.Ns mainGlobals mg → FnG P w K mg base CX0 k fa fd [x] (spLaw K)) (hbind : ∀ (s : Shared) (u : Value), BindsTo s fd ⟨[u], []⟩ [(x, u)]) :
    codeAny (model P w) callerA (.call (.ref fa) ⟨[.ref a], []⟩) (fun r s' => r = .ok (.ret (.bool true)) ∧ OldK s.heap s'.heap ∧ s'.os = s.os ∧ AllBare s'.gens) s := by
  have hok : HOk P w (scriptH K a vs ns) s.heap := fun b o h => by
    obtain ⟨rfl, _, rfl⟩ := scriptH_some h
    exact ⟨ha, by rw [List.length_map]; exact hl, vs, _, vals_ints hi, ha⟩
  have hS : SqL K (scriptH K a vs ns) a (ns.map V.int) := by
    cases q : K.lookup a with
    | none => exact .inl (.inr ⟨{ cls := .type "list", data := .seq vs.toArray }, if_pos ⟨rfl, q⟩⟩)
    | some o =>
      have e := KX a o q
      rw [ha] at e
      cases e
      exact .inr ⟨_, vs.toArray, _, q, rfl, rfl, rfl, by rw [List.size_toArray, hi.length]; exact hl, by simpa using vals_ints hi⟩
  have seq : ∀ {b : Addr} {o : Obj}, s.heap.get? b = some o → scriptH K a vs ns b ≠ none → ∃ us n, o.data = .seq us n := fun {b o} e h => by
    obtain ⟨u, hu⟩ := Option.ne_none_iff_exists'.mp h
    obtain ⟨rfl, _, _⟩ := scriptH_some hu
    rw [ha] at e
    cases e
    exact ⟨_, _, rfl⟩
  have keep : ∀ {b : Addr} {o : Obj}, s.heap.get? b = some o → scriptH K a vs ns b = none → (hidT s.heap (scriptH K a vs ns)).get? b = some o := fun e n => hidT_get e n
  have nsK : ∀ {b : Addr} {m : Str → Option Value}, s.heap.Ns b m → (hidT s.heap (scriptH K a vs ns)).Ns b m := fun {b m} ⟨o, es, ep, e, d, r⟩ => ⟨o, es, ep, keep e (by
    cases q : scriptH K a vs ns b with
    | none => rfl
    | some u =>
      obtain ⟨us, n, h⟩ := seq e (by rw [q]; simp)
      rw [d] at h
      cases h), d, r⟩
  have KB : K.In (hidT s.heap (scriptH K a vs ns)) := fun b o e => keep (KX b o e) (by
    cases q : scriptH K a vs ns b with
    | none => rfl
    | some u =>
      obtain ⟨rfl, h, _⟩ := scriptH_some q
      rw [h] at e
      cases e)
  have M : Mod K mg (hidT s.heap (scriptH K a vs ns)) := ⟨KB, nsK hns, ⟨mb, nsK hb, hbb⟩, let ⟨mc, h1, h2⟩ := hlim; ⟨mc, nsK h1, h2⟩⟩
  have E : Env0 P w K mg (hidT s.heap (scriptH K a vs ns)) callerA [] s (scriptH K a vs ns) :=
    ⟨rfl, M, fun b o e => of_hidT e, Nat.le_of_eq (hidT_size _ _), trivial, fun b hb => (by cases hb), hok, .of_eq hg⟩
  refine codeAny_mono ((F _ KB (nsK hns)).run callerA [] s (scriptH K a vs ns) ⟨[.ref a], []⟩ [.ref a] [.ref a] (fun v _ => v = .bl true) (fun _ _ _ => False) hr rfl E (hbind s (.ref a)) (.cons rfl .nil) ⟨a, ns, rfl, hS, szs_of hok, fun _ => rfl⟩) fun r s' h => ?_
  cases r with
  | error e => exact (show False from h).elim
  | ok fl =>
    cases fl with
    | next => exact (show False from h).elim
    | brk => exact (show False from h).elim
    | cont => exact (show False from h).elim
    | ret u =>
      obtain ⟨v, H', h1, h2, un, hok', rv, hv⟩ := h
      have hv : v = .bl true := hv
      subst hv
      have eu : u = Value.bool true := rv
      subst eu
      refine ⟨rfl, OldK.of_keep fun b o e => ?_, h1, h2⟩
      cases q : scriptH K a vs ns b with
      | none => exact un.keep b o e q (fun z => by cases z) (by simp)
      | some u =>
        obtain ⟨rfl, _, rfl⟩ := scriptH_some q
        rw [ha] at e
        cases e
        exact (hok' b _ (un.frzs b _ _ q)).1
end
theorem walk_law {l : PySem.W.OpenLaw} {n k : Nat} {q : Program} {loose : List Str} {XP : (Str → Option Value) → Heap → Prop} {YP : World → Heap → Prop} {d : DefRec} {x : Str}
    (hn : l.most = some n) (hn2 : n ≤ sizeLine) (hdf : d.params.defaults = []) (hr : Room k callerA)
    (F : ∀ (w : World) (mg : Str → Option Value) (fa : Addr) (h : Heap), YP w h → h.Ns mainGlobals mg → mg d.name = some (.ref fa) →
      ∃ (K : Fg) (fd : FuncData), K.In h ∧ (∀ (s : Shared) (u : Value), BindsTo s fd ⟨[u], []⟩ [(x, u)]) ∧
        ∀ base : Heap, K.In base → base.Ns mainGlobals mg → FnG l.prog w K mg base CX0 k fa fd [x] (spLaw K)) :
    PySem.W.WalkO q loose XP YP l.row.toRowW d [] (fun f vs => PySem.call f vs) := by
  refine Att.attach_call hn hdf fun w s₀ s₁ mg mb fa o pm cd doc a vs ns G Y ho hd hcd hmg hobj hints hlen hg => ?_
  obtain ⟨K, fd, KX, hb, hF⟩ := F w mg fa _ Y G.T.g hmg
  exact law_end KX G.T.g G.T.b G.T.builtins G.T.nolimit hg hobj hints (Nat.le_trans hlen hn2) hr hF hb
end Dk
namespace K84
open PySem PySem.Spec PyProof.Rows L2 Dk
def top (i : Nat) : Stmt := PySem.Challenge.pw_priceplans_k84_choices_and_answers.main.body.getD i (.Pass ⟨0, 0, 0, 0⟩)
abbrev S_q16 : Stmt := top 1
abbrev P_q16 : List Str := ["some", "rows", "column"]
abbrev N_q16 : List Str := ["some", "rows", "column"]
abbrev S_q8 : Stmt := top 2
abbrev P_q8 : List Str := ["bound", "value"]
abbrev N_q8 : List Str := ["bound", "value"]
abbrev S_q20 : Stmt := top 3
abbrev P_q20 : List Str := ["query", "some", "rows"]
abbrev N_q20 : List Str := ["query", "some", "rows", "bound", "one", "other"]
abbrev S_q21 : Stmt := top 4
abbrev P_q21 : List Str := ["query", "database", "some", "places"]
abbrev N_q21 : List Str := ["query", "database", "some", "places", "one", "place"]
abbrev S_q10 : Stmt := top 5
abbrev P_q10 : List Str := ["query", "database", "some"]
abbrev N_q10 : List Str := ["query", "database", "some", "found", "k", "one", "size", "wider", "places", "place"]
abbrev S_q23 : Stmt := top 6
abbrev P_q23 : List Str := ["query", "database", "some", "choice"]
abbrev N_q23 : List Str := ["query", "database", "some", "choice", "found", "row"]
abbrev S_q3 : Stmt := top 7
abbrev P_q3 : List Str := ["query"]
abbrev N_q3 : List Str := ["query"]
abbrev S_q22 : Stmt := top 8
abbrev P_q22 : List Str := ["query", "database"]
abbrev N_q22 : List Str := ["query", "database", "some", "rows", "values", "places", "row", "value", "column"]
abbrev S_q19 : Stmt := top 10
abbrev P_q19 : List Str := ["_law_script"]
abbrev N_q19 : List Str := ["_law_script", "_law_cells", "_law_k", "_law_cell"]
abbrev S_q12 : Stmt := top 11
abbrev P_q12 : List Str := ["_law_cell", "_law_at"]
abbrev N_q12 : List Str := ["_law_cell", "_law_at", "_law_primes", "_law_one", "_law_two", "_law_three"]
abbrev S_q17 : Stmt := top 12
abbrev P_q17 : List Str := ["_law_pen", "_law_amount"]
abbrev N_q17 : List Str := ["_law_pen", "_law_amount", "_law_found", "_law_at", "_law_cell"]
abbrev S_q18 : Stmt := top 13
abbrev P_q18 : List Str := ["_law_found", "_law_due"]
abbrev N_q18 : List Str := ["_law_found", "_law_due", "_law_one", "_law_other"]
abbrev S_q11 : Stmt := top 14
abbrev P_q11 : List Str := ["_law_pen", "_law_some"]
abbrev N_q11 : List Str := ["_law_pen", "_law_some"]
abbrev S_q1 : Stmt := top 15
abbrev P_q1 : List Str := ["_law_pen"]
abbrev N_q1 : List Str := ["_law_pen", "_law_again"]
abbrev S_q0 : Stmt := top 16
abbrev P_q0 : List Str := ["_law_pen", "_law_scheme", "_law_most"]
abbrev N_q0 : List Str := ["_law_pen", "_law_scheme", "_law_most", "_law_columns", "_law_high", "_law_found", "_law_rows", "_law_again", "_law_row", "_law_k"]
abbrev S_q2 : Stmt := top 17
abbrev P_q2 : List Str := ["_law_pen", "_law_scheme", "_law_occurrences"]
abbrev N_q2 : List Str := ["_law_pen", "_law_scheme", "_law_occurrences", "_law_o"]
abbrev S_q4 : Stmt := top 18
abbrev P_q4 : List Str := ["_law_pen", "_law_scheme", "_law_most"]
abbrev N_q4 : List Str := ["_law_pen", "_law_scheme", "_law_most", "_law_occurrences", "_law_again", "_law_group", "_law_many", "_law_output", "_law_bounds", "_law_equalities", "_law_word", "_law_number", "_law_pair"]
abbrev S_q15 : Stmt := top 19
abbrev P_q15 : List Str := ["_law_query"]
abbrev N_q15 : List Str := ["_law_query", "_law_many", "_law_some", "_law_a", "_law_b"]
abbrev S_q5 : Stmt := top 20
abbrev P_q5 : List Str := ["_law_some", "_law_rows", "_law_column"]
abbrev N_q5 : List Str := ["_law_some", "_law_rows", "_law_column"]
abbrev S_q14 : Stmt := top 21
abbrev P_q14 : List Str := ["_law_query", "_law_some", "_law_rows"]
abbrev N_q14 : List Str := ["_law_query", "_law_some", "_law_rows", "_law_column", "_law_word", "_law_number", "_law_one", "_law_other", "_law_value"]
abbrev S_q6 : Stmt := top 23
abbrev P_q6 : List Str := ["_law_query", "_law_database", "_law_some", "_law_places"]
abbrev N_q6 : List Str := ["_law_query", "_law_database", "_law_some", "_law_places", "_law_one", "_law_k"]
abbrev S_q7 : Stmt := top 22
abbrev P_q7 : List Str := ["_law_query", "_law_database", "_law_some"]
abbrev N_q7 : List Str := ["_law_query", "_law_database", "_law_some", "_law_found", "_law_one", "_law_wider", "_law_places", "_law_k"]
abbrev S_q13 : Stmt := top 24
abbrev P_q13 : List Str := ["_law_rows"]
abbrev N_q13 : List Str := ["_law_rows", "_law_found", "_law_row"]
abbrev S_q9 : Stmt := top 25
abbrev P_q9 : List Str := ["_law_query", "_law_database"]
abbrev N_q9 : List Str := ["_law_query", "_law_database", "_law_some", "_law_rows", "_law_values", "_law_places", "_law_row", "_law_value", "_law_column"]
abbrev S_law : Stmt := top 26
abbrev P_law : List Str := ["_law_script"]
abbrev N_law : List Str := ["_law_script", "_law_pen", "_law_turn", "_law_scheme", "_law_query", "_law_data", "_law_seen", "_law_some", "_law_due", "_law_again", "_law_places", "_law_told", "_law_rows"]
def dd_q16 : He.DefD := ⟨("value_in", none), "value_in", "value_in", defArgs S_q16, defBody S_q16, defScope S_q16, [], []⟩
def dd_q8 : He.DefD := ⟨("bound_holds", none), "bound_holds", "bound_holds", defArgs S_q8, defBody S_q8, defScope S_q8, [], []⟩
def dd_q20 : He.DefD := ⟨("all_hold", none), "all_hold", "all_hold", defArgs S_q20, defBody S_q20, defScope S_q20, [], []⟩
def dd_q21 : He.DefD := ⟨("rows_at", none), "rows_at", "rows_at", defArgs S_q21, defBody S_q21, defScope S_q21, [], []⟩
def dd_q10 : He.DefD := ⟨("choices_of", none), "choices_of", "choices_of", defArgs S_q10, defBody S_q10, defScope S_q10, [], []⟩
def dd_q23 : He.DefD := ⟨("joined", none), "joined", "joined", defArgs S_q23, defBody S_q23, defScope S_q23, [], []⟩
def dd_q3 : He.DefD := ⟨("all_occurrences", none), "all_occurrences", "all_occurrences", defArgs S_q3, defBody S_q3, defScope S_q3, [], []⟩
def dd_q22 : He.DefD := ⟨("answer", none), "answer", "answer", defArgs S_q22, defBody S_q22, defScope S_q22, [], []⟩
def dd_q19 : He.DefD := ⟨("_law_open", none), "_law_open", "_law_open", defArgs S_q19, defBody S_q19, defScope S_q19, [], []⟩
def dd_q12 : He.DefD := ⟨("_law_spread", none), "_law_spread", "_law_spread", defArgs S_q12, defBody S_q12, defScope S_q12, [], []⟩
def dd_q17 : He.DefD := ⟨("_law_take", none), "_law_take", "_law_take", defArgs S_q17, defBody S_q17, defScope S_q17, [], []⟩
def dd_q18 : He.DefD := ⟨("_law_same", none), "_law_same", "_law_same", defArgs S_q18, defBody S_q18, defScope S_q18, [], []⟩
def dd_q11 : He.DefD := ⟨("_law_one_of", none), "_law_one_of", "_law_one_of", defArgs S_q11, defBody S_q11, defScope S_q11, [], []⟩
def dd_q1 : He.DefD := ⟨("_law_draw_scheme", none), "_law_draw_scheme", "_law_draw_scheme", defArgs S_q1, defBody S_q1, defScope S_q1, [], []⟩
def dd_q0 : He.DefD := ⟨("_law_draw_database", none), "_law_draw_database", "_law_draw_database", defArgs S_q0, defBody S_q0, defScope S_q0, [], []⟩
def dd_q2 : He.DefD := ⟨("_law_draw_column", none), "_law_draw_column", "_law_draw_column", defArgs S_q2, defBody S_q2, defScope S_q2, [], []⟩
def dd_q4 : He.DefD := ⟨("_law_draw_query", none), "_law_draw_query", "_law_draw_query", defArgs S_q4, defBody S_q4, defScope S_q4, [], []⟩
def dd_q15 : He.DefD := ⟨("_law_sets", none), "_law_sets", "_law_sets", defArgs S_q15, defBody S_q15, defScope S_q15, [], []⟩
def dd_q5 : He.DefD := ⟨("_law_value_of", none), "_law_value_of", "_law_value_of", defArgs S_q5, defBody S_q5, defScope S_q5, [], []⟩
def dd_q14 : He.DefD := ⟨("_law_holds", none), "_law_holds", "_law_holds", defArgs S_q14, defBody S_q14, defScope S_q14, [], []⟩
def dd_q6 : He.DefD := ⟨("_law_rows_at", none), "_law_rows_at", "_law_rows_at", defArgs S_q6, defBody S_q6, defScope S_q6, [], []⟩
def dd_q7 : He.DefD := ⟨("_law_choices", none), "_law_choices", "_law_choices", defArgs S_q7, defBody S_q7, defScope S_q7, [], []⟩
def dd_q13 : He.DefD := ⟨("_law_joined", none), "_law_joined", "_law_joined", defArgs S_q13, defBody S_q13, defScope S_q13, [], []⟩
def dd_q9 : He.DefD := ⟨("_law_answer", none), "_law_answer", "_law_answer", defArgs S_q9, defBody S_q9, defScope S_q9, [], []⟩
def dd_law : He.DefD := ⟨("law", none), "law", "law", defArgs S_law, defBody S_law, defScope S_law, [], []⟩
def fn : List He.DefD := [dd_q16, dd_q8, dd_q20, dd_q21, dd_q10, dd_q23, dd_q3, dd_q22, dd_q19, dd_q12, dd_q17, dd_q18, dd_q11, dd_q1, dd_q0, dd_q2, dd_q4, dd_q15, dd_q5, dd_q14, dd_q6, dd_q7, dd_q13, dd_q9, dd_law]
def gl : List Str := (["value_in", "bound_holds", "all_hold", "rows_at", "choices_of", "joined", "all_occurrences", "answer", "_law_open", "_law_spread", "_law_take", "_law_same", "_law_one_of", "_law_draw_scheme", "_law_draw_database", "_law_draw_column", "_law_draw_query", "_law_sets", "_law_value_of", "_law_holds", "_law_rows_at", "_law_choices", "_law_joined", "_law_answer", "law"] : List PySem.Str)
def fa : List He.Fa := gl.map He.Fa.glo ++ (bltNames.map He.Fa.free ++ [])
abbrev R : PySem.W.OpenRow := PySem.W.OpenLaw.row PySem.Challenge.rw_priceplans_k84_choices_and_answers
abbrev hk : PySem.W.Hook := He.hookD 4 fa fn
def ob (s : PySem.W.SharedT) : He.AlD := He.obsDG 4 fa fn (HandSHeadRun.getT s)
theorem ob_eq (s : PySem.W.SharedT) : ob s = hk.obs s.abs := He.obsDG_eq (HandSHeadRun.getT_eq s)
theorem run (w : World) : HandSHeadRun.RunEq R (PySem.W.view R.prog [26]) hk ob 4000 (["value_in", "bound_holds", "all_hold", "rows_at", "choices_of", "joined", "all_occurrences", "answer", "_law_open", "_law_spread", "_law_take", "_law_same", "_law_one_of", "_law_draw_scheme", "_law_draw_database", "_law_draw_column", "_law_draw_query", "_law_sets", "_law_value_of", "_law_holds", "_law_choices", "_law_rows_at", "_law_joined", "_law_answer"] : List PySem.Str) w := by
  intro os
  kernel_rfl
end K84
namespace Dk
open PySem PySem.Spec PyProof.Rows L2
variable {S : Type} [StK S]
def rdS : List Sl → Nat → Option D
  | [], _ => none
  | s :: _, 0 => s.rd
  | _ :: l, n + 1 => rdS l n
theorem rdS_eq : ∀ (l : List Sl) (i : Nat), (l[i]?).bind Sl.rd = rdS l i
  | [], _ => rfl
  | s :: l, 0 => rfl
  | s :: l, n + 1 => by rw [rdS, ← rdS_eq l n]; rfl
def argS : List Sl → Nat → Option Arg
  | [], _ => none
  | s :: _, 0 => slArg s
  | _ :: l, n + 1 => argS l n
theorem argS_eq : ∀ (l : List Sl) (i : Nat), (l[i]?).bind slArg = argS l i
  | [], _ => rfl
  | s :: l, 0 => rfl
  | s :: l, n + 1 => by rw [argS, ← argS_eq l n]; rfl
section
variable {ρ : List Sl} {d : D} {r : Rs} {xs ds : List D} {i j : Int} {n : Nat} {x y : Str} {b : Bool}
@[simp] theorem v_hasS : hasS ρ n = match ρ[n]? with
  | some .un => false
  | some _ => true
  | none => false := rfl
@[simp] theorem v_own? : own? ρ n = match ρ[n]? with
  | some (.own xs) => some xs
  | _ => none := rfl
@[simp] theorem v_isPen : isPen ρ n = match ρ[n]? with
  | some .pen => true
  | _ => false := rfl
@[simp] theorem v_scr? : scr? ρ n = match ρ[n]? with
  | some (.scr ns) => some ns
  | _ => none := rfl
@[simp] theorem v_rd_bt {ρ : En S} : Tk.rd ρ (.bt xs) = some (.list xs) := rfl
@[simp] theorem v_srd_val : Sl.rd (.val d) = some d := rfl
@[simp] theorem v_srd_own : Sl.rd (.own xs) = some (.list xs) := rfl
@[simp] theorem v_srd_bor : Sl.rd (.bor xs) = some (.list xs) := rfl
@[simp] theorem v_d_val : Rs.d (.val d) = d := rfl
@[simp] theorem v_d_own : Rs.d (.own xs) = .list xs := rfl
@[simp] theorem v_sl_val : Rs.sl (.val d) = .val d := rfl
@[simp] theorem v_sl_own : Rs.sl (.own xs) = .own xs := rfl
@[simp] theorem v_bl_d : Rs.d (bl b) = .bool b := rfl
@[simp] theorem v_ri_d : Rs.d (ri i) = .int i := rfl
@[simp] theorem v_bl_sl : Rs.sl (bl b) = .val (.bool b) := rfl
@[simp] theorem v_ri_sl : Rs.sl (ri i) = .val (.int i) := rfl
@[simp] theorem v_mkT_d : Rs.d (mkT ds) = .tuple ds := rfl
@[simp] theorem v_mkT_sl : Rs.sl (mkT ds) = .val (.tuple ds) := rfl
@[simp] theorem v_bool : D.bool? (.bool b) = some b := rfl
@[simp] theorem v_Rsb : Rs.b? r = D.bool? r.d := rfl
@[simp] theorem v_lt : ltD (.int i) (.int j) = some (bl (decide (i < j))) := rfl
@[simp] theorem v_le : leD (.int i) (.int j) = some (bl (decide (i ≤ j))) := rfl
@[simp] theorem v_gt : gtD (.int i) (.int j) = some (bl (decide (j < i))) := rfl
@[simp] theorem v_ge : geD (.int i) (.int j) = some (bl (decide (j ≤ i))) := rfl
@[simp] theorem v_addI : addD (.int i) (.int j) = some (ri (i + j)) := rfl
@[simp] theorem v_addL {ys : List D} : addD (.list xs) (.list ys) = if xs.length + ys.length ≤ sizeLine then some (.own (xs ++ ys)) else none := rfl
@[simp] theorem v_addT {ys : List D} : addD (.tuple xs) (.tuple ys) = if xs.length + ys.length ≤ sizeLine then some (.val (.tuple (xs ++ ys))) else none := rfl
@[simp] theorem v_sub : subD (.int i) (.int j) = some (ri (i - j)) := rfl
@[simp] theorem v_mulI : mulT (.int i) (.int j) = if CMulW i j then some (ri (i * j)) else none := rfl
@[simp] theorem v_mulTup : mulT (.tuple xs) (.int i) = if xs ≠ [] ∧ 1 ≤ i ∧ i ≤ 1000 ∧ xs.length ≤ 1000 then some (.val (.tuple (List.replicate i.toNat xs).flatten)) else none := rfl
@[simp] theorem v_fdiv : fdivD (.int i) (.int j) = if CDivW i j then some (ri (i / j)) else none := rfl
@[simp] theorem v_mod : modD (.int i) (.int j) = if 0 < j then some (ri (i % j)) else none := rfl
@[simp] theorem v_pow : powD (.int i) (.int j) = if CPow i j then some (ri (i ^ j.toNat)) else none := rfl
@[simp] theorem v_neg : negD (.int i) = some (ri (-i)) := rfl
@[simp] theorem v_ixL : ixD (.list xs) (.int i) = (atI xs i).map .val := rfl
@[simp] theorem v_ixT : ixD (.tuple xs) (.int i) = (atI xs i).map .val := rfl
@[simp] theorem v_slL {l h : Option Int} : slD (.list xs) l h = some (.own (cutD xs l h)) := rfl
@[simp] theorem v_slT {l h : Option Int} : slD (.tuple xs) l h = some (.val (.tuple (cutD xs l h))) := rfl
@[simp] theorem v_lenL : lenD [.list xs] = some (ri xs.length) := rfl
@[simp] theorem v_lenT : lenD [.tuple xs] = some (ri xs.length) := rfl
@[simp] theorem v_listL : listD [.list xs] = some (.own xs) := rfl
@[simp] theorem v_listT : listD [.tuple xs] = some (.own xs) := rfl
@[simp] theorem v_tupleL : tupleD [.list xs] = some (.val (.tuple xs)) := rfl
@[simp] theorem v_tupleT : tupleD [.tuple xs] = some (.val (.tuple xs)) := rfl
@[simp] theorem v_intI : intD [.int i] = some (ri i) := rfl
@[simp] theorem v_intB : intD [.bool b] = some (ri (if b then 1 else 0)) := rfl
@[simp] theorem v_sumL : sumD [.list ds] = (ints? ds).map fun ns => ri ns.sum := rfl
@[simp] theorem v_allL : allD [.list ds] = (bls? ds).map fun bs => bl (bs.all id) := rfl
@[simp] theorem v_maxL : maxD [.list ds] = (ints? ds).bind fun ns => (maxI ns).map ri := rfl
@[simp] theorem v_max2 : maxD [.int i, .int j] = some (ri (max i j)) := rfl
@[simp] theorem v_eq {e : D} : eqD d e = if eqOk d e = true then some (bl (PyData.eqv d e)) else none := rfl
@[simp] theorem v_ne {e : D} : neD d e = if eqOk d e = true then some (bl (!PyData.eqv d e)) else none := rfl
@[simp] theorem v_is {nb : Bool} : isD nb d .none = some (bl (if nb then !isNone d else isNone d)) := rfl
@[simp] theorem v_vals_nil : vals [] = some [] := rfl
@[simp] theorem v_vals_cons {ks : List Tk} : vals (.tmp (.val d) :: ks) = (vals ks).bind fun ds => some (d :: ds) := rfl
@[simp] theorem v_rds_cons {ρ : En S} {k : Tk} {ks : List Tk} : rds ρ (k :: ks) = (k.rd ρ).bind fun d => (rds ρ ks).bind fun ds => some (d :: ds) := rfl
@[simp] theorem v_toArgs_nil {ρ : En S} : toArgs ρ [] = some [] := rfl
@[simp] theorem v_toArgs_cons {ρ : En S} {k : Tk} {ks : List Tk} : toArgs ρ (k :: ks) = (toArg ρ k).bind fun a => (toArgs ρ ks).bind fun as => some (a :: as) := rfl
@[simp] theorem v_toArg_tmp {ρ : En S} : toArg ρ (.tmp (.val d)) = some (.val d) := rfl
@[simp] theorem v_slArg_val : slArg (.val d) = some (.val d) := rfl
@[simp] theorem v_slArg_own : slArg (.own xs) = some (.bor xs) := rfl
@[simp] theorem v_slArg_bor : slArg (.bor xs) = some (.bor xs) := rfl
@[simp] theorem v_slArg_pen : slArg .pen = some .pen := rfl
@[simp] theorem v_asl_val : Arg.sl (.val d) = .val d := rfl
@[simp] theorem v_asl_bor : Arg.sl (.bor xs) = .bor xs := rfl
@[simp] theorem v_asl_pen : Arg.sl .pen = .pen := rfl
@[simp] theorem v_asl_scr {ns : List Int} : Arg.sl (.scr ns) = .scr ns := rfl
@[simp] theorem v_startD {as : List Arg} : startD n as = as.map Arg.sl ++ List.replicate (n - as.length) .un := rfl
@[simp] theorem v_pen0 {p : Pen} : penD p 0 = some (.list (p.cells.map .int)) := rfl
@[simp] theorem v_pen1 {p : Pen} : penD p 1 = some (.int p.at_) := rfl
@[simp] theorem v_pen2 {p : Pen} : penD p 2 = some (.int p.cur) := rfl
@[simp] theorem v_pset1 {p : Pen} : penSet p i 1 = some { p with at_ := i } := rfl
@[simp] theorem v_pset2 {p : Pen} : penSet p i 2 = some { p with cur := i } := rfl
@[simp] theorem v_atI0 : atI (d :: ds) 0 = some d := by
  unfold atI ixN
  rw [if_pos (by decide), if_pos (by rw [List.length_cons]; omega)]
  rfl
theorem atI_nat {α : Type} {xs : List α} (n : Nat) : atI xs (n : Int) = xs[n]? := by
  unfold atI ixN
  rw [if_pos (by omega)]
  by_cases h : n < xs.length
  · rw [if_pos (by omega), Option.bind_some]
    rw [show ((n : Int)).toNat = n by omega]
  · rw [if_neg (by omega), Option.bind_none]
    rw [List.getElem?_eq_none (by omega)]
theorem atI_of {α : Type} {xs : List α} {i : Int} (h0 : 0 ≤ i) : atI xs i = xs[i.toNat]? := by
  have := atI_nat (xs := xs) i.toNat
  rwa [Int.toNat_of_nonneg h0] at this
@[simp] theorem v_atI1 {e : D} : atI (d :: e :: ds) 1 = some e := by
  rw [atI_of (by decide)]
  rfl
end
section
variable {E : (DE S)} {s0 : Sl} {l0 : List Sl} {pn : S} {t u : (DS S)} {te tv uv : (DW S)} {ta tb tc : (OW S)} {tt ut : (BW S)} {tl th : (PW_ S)} {aa : (AW S)} {it : (IW S)} {g : (GW S)} {gs : (GWs S)} {i j l n : Nat} {d : D} {xs : List D} {gg g' : D → D → Option Rs} {gu : D → Option Rs} {gl : List D → Option Rs}
variable {P : Rs → (En S) → Prop} {Po : Tk → (En S) → Prop} {Pb : Bool → (En S) → Prop} {Pp : Option Int → (En S) → Prop} {Pa : List Tk → (En S) → Prop} {Pi : Sc → (En S) → Prop} {Pg : (En S) → Prop} {Q : D → S → Prop}
@[simp↓] theorem e_nx {f : (En S) → Prop} {r : D → S → Prop} {b c : (En S) → Prop} {o : List D → S → Prop} {ρ : (En S)} : DE.nx ⟨f, r, b, c, o⟩ ρ = f ρ := rfl
@[simp↓] theorem e_rt {f : (En S) → Prop} {r : D → S → Prop} {b c : (En S) → Prop} {o : List D → S → Prop} : DE.rt ⟨f, r, b, c, o⟩ d pn = r d pn := rfl
@[simp↓] theorem e_bk {f : (En S) → Prop} {r : D → S → Prop} {b c : (En S) → Prop} {o : List D → S → Prop} {ρ : (En S)} : DE.bk ⟨f, r, b, c, o⟩ ρ = b ρ := rfl
@[simp↓] theorem e_ct {f : (En S) → Prop} {r : D → S → Prop} {b c : (En S) → Prop} {o : List D → S → Prop} {ρ : (En S)} : DE.ct ⟨f, r, b, c, o⟩ ρ = c ρ := rfl
@[simp↓] theorem e_ro {f : (En S) → Prop} {r : D → S → Prop} {b c : (En S) → Prop} {o : List D → S → Prop} : DE.ro ⟨f, r, b, c, o⟩ xs pn = o xs pn := rfl
@[simp↓] theorem z_sNil : sNil E ⟨s0 :: l0, pn⟩ = E.nx ⟨s0 :: l0, pn⟩ := rfl
@[simp↓] theorem z_sCons : sCons t u E ⟨s0 :: l0, pn⟩ = t { E with nx := fun ρ1 => u E ρ1 } ⟨s0 :: l0, pn⟩ := rfl
@[simp↓] theorem z_dSet : dSet i te E ⟨s0 :: l0, pn⟩ = te ⟨s0 :: l0, pn⟩ fun r ρ1 => E.nx ⟨ρ1.sl.set i r.sl, ρ1.pn⟩ := rfl
@[simp↓] theorem z_dRet : dRet te E ⟨s0 :: l0, pn⟩ = te ⟨s0 :: l0, pn⟩ fun r ρ1 => E.rt r.d ρ1.pn := rfl
@[simp↓] theorem z_dRetN : dRetN E ⟨s0 :: l0, pn⟩ = E.rt .none pn := rfl
@[simp↓] theorem z_sPass : sPass E ⟨s0 :: l0, pn⟩ = E.nx ⟨s0 :: l0, pn⟩ := rfl
@[simp↓] theorem z_sCont : sCont E ⟨s0 :: l0, pn⟩ = E.ct ⟨s0 :: l0, pn⟩ := rfl
@[simp↓] theorem z_sBreak : sBreak E ⟨s0 :: l0, pn⟩ = E.bk ⟨s0 :: l0, pn⟩ := rfl
@[simp↓] theorem z_dExpr : dExpr te E ⟨s0 :: l0, pn⟩ = te ⟨s0 :: l0, pn⟩ fun _ ρ1 => E.nx ρ1 := rfl
@[simp↓] theorem z_dIfS : dIfS tt t u E ⟨s0 :: l0, pn⟩ = tt ⟨s0 :: l0, pn⟩ fun b ρ1 => if b = true then t E ρ1 else u E ρ1 := rfl
@[simp↓] theorem z_dSetT : dSetT g te E ⟨s0 :: l0, pn⟩ = te ⟨s0 :: l0, pn⟩ fun r ρ1 => g r.d ρ1 E.nx := rfl
@[simp↓] theorem z_dPar2 : dPar2 i j aa E ⟨s0 :: l0, pn⟩ = aa ⟨s0 :: l0, pn⟩ fun ks ρ1 => gets (tmps ks) fun rs => match rs with
  | [r1, r2] => E.nx ⟨(ρ1.sl.set i r1.sl).set j r2.sl, ρ1.pn⟩
  | _ => False := rfl
@[simp↓] theorem z_dPar3 : dPar3 i j l aa E ⟨s0 :: l0, pn⟩ = aa ⟨s0 :: l0, pn⟩ fun ks ρ1 => gets (tmps ks) fun rs => match rs with
  | [r1, r2, r3] => E.nx ⟨((ρ1.sl.set i r1.sl).set j r2.sl).set l r3.sl, ρ1.pn⟩
  | _ => False := rfl
@[simp↓] theorem z_dAug {f : Int → Int → Int} : dAug i f te E ⟨s0 :: l0, pn⟩ = gets ((rdS (s0 :: l0) i).bind D.int?) fun a => te ⟨s0 :: l0, pn⟩ fun r ρ1 => gets (D.int? r.d) fun b => E.nx ⟨ρ1.sl.set i (.val (.int (f a b))), ρ1.pn⟩ := by rw [← rdS_eq]; rfl
@[simp↓] theorem z_dSetIx : dSetIx i ta te E ⟨s0 :: l0, pn⟩ = te ⟨s0 :: l0, pn⟩ fun r ρ1 => (own? ρ1.sl i).isSome = true ∧ ta ρ1 fun k ρ2 => gets ((k.rd ρ2).bind D.int?) fun z => gets (own? ρ2.sl i) fun xs => gets (ixN xs.length z) fun j => E.nx ⟨ρ2.sl.set i (.own (xs.set j r.d)), ρ2.pn⟩ := rfl
@[simp↓] theorem z_dPenSet {E : DE (Option Pen)} {te : DW (Option Pen)} {pn : Option (Pen)} {j : Int} : dPenSet i j te E ⟨s0 :: l0, pn⟩ = te ⟨s0 :: l0, pn⟩ fun r ρ1 => isPen ρ1.sl i = true ∧ gets ρ1.pn fun p => gets (D.int? r.d) fun z => gets (penSet p z j) fun p' => E.nx ⟨ρ1.sl, some p'⟩ := rfl
@[simp↓] theorem z_dFor {b : (DS S)} : dFor it g b E ⟨s0 :: l0, pn⟩ = it ⟨s0 :: l0, pn⟩ fun c ρ1 => (c.ks.any Tk.slot? = false) ∧ gets (c.items ρ1) fun items => items.length ≤ sizeLine → forW g b E items ρ1 := rfl
@[simp↓] theorem z_dLc {vs : List Nat} : dLc it g tt ta vs ⟨s0 :: l0, pn⟩ P = it ⟨s0 :: l0, pn⟩ fun c ρ1 => gets (c.items ρ1) fun items => items.length ≤ sizeLine →
  lcW c items g tt ta vs (fun acc ρ2 => P (.own acc) ⟨unwipe ρ1.sl ρ2.sl vs, ρ2.pn⟩) items [] ⟨wipeD ρ1.sl vs, ρ1.pn⟩ := rfl
@[simp↓] theorem z_oSlot : oSlot i ⟨s0 :: l0, pn⟩ Po = (hasS (s0 :: l0) i = true ∧ Po (.slot i) ⟨s0 :: l0, pn⟩) := rfl
@[simp↓] theorem z_oFix : oFix i ⟨s0 :: l0, pn⟩ Po = match (s0 :: l0)[i]? with
  | some (.val d) => Po (.tmp (.val d)) ⟨s0 :: l0, pn⟩
  | some (.own xs) => Po (.tmp (.val (.list xs))) ⟨(s0 :: l0).set i (.val (.list xs)), pn⟩
  | some (.bor xs) => Po (.bt xs) ⟨s0 :: l0, pn⟩
  | _ => False := rfl
@[simp↓] theorem z_dVar : dVar i ⟨s0 :: l0, pn⟩ P = match (s0 :: l0)[i]? with
  | some (.val d) => P (.val d) ⟨s0 :: l0, pn⟩
  | some (.own xs) => P (.val (.list xs)) ⟨(s0 :: l0).set i (.val (.list xs)), pn⟩
  | _ => False := rfl
@[simp↓] theorem z_dC : dC d ⟨s0 :: l0, pn⟩ P = P (.val d) ⟨s0 :: l0, pn⟩ := rfl
@[simp↓] theorem z_tmpD : tmpD te ⟨s0 :: l0, pn⟩ Po = te ⟨s0 :: l0, pn⟩ fun r ρ' => Po (.tmp r) ρ' := rfl
@[simp↓] theorem z_oVal : oVal te ⟨s0 :: l0, pn⟩ Po = te ⟨s0 :: l0, pn⟩ fun r ρ' => Po (.tmp (.val r.d)) ρ' := rfl
@[simp↓] theorem z_dBin : dBin gg ta tb ⟨s0 :: l0, pn⟩ P = ta ⟨s0 :: l0, pn⟩ fun k1 ρ1 => tb ρ1 fun k2 ρ2 => gets (k1.rd ρ2) fun d1 => gets (k2.rd ρ2) fun d2 => gets (gg d1 d2) fun r => P r ρ2 := rfl
@[simp↓] theorem z_dUn : dUn gu ta ⟨s0 :: l0, pn⟩ P = ta ⟨s0 :: l0, pn⟩ fun k ρ1 => gets (k.rd ρ1) fun d => gets (gu d) fun r => P r ρ1 := rfl
@[simp↓] theorem z_dIsi {T : Ty} : dIsi T ta ⟨s0 :: l0, pn⟩ P = ta ⟨s0 :: l0, pn⟩ fun k ρ1 => gets (k.rd ρ1) fun d => P (.val (.bool (isi T d))) ρ1 := rfl
@[simp↓] theorem z_dIsi2 {T U : Ty} : dIsi2 T U ta ⟨s0 :: l0, pn⟩ P = ta ⟨s0 :: l0, pn⟩ fun k ρ1 => gets (k.rd ρ1) fun d => P (.val (.bool (isi T d || isi U d))) ρ1 := rfl
@[simp↓] theorem z_dTst : dTst ta ⟨s0 :: l0, pn⟩ Pb = ta ⟨s0 :: l0, pn⟩ fun k ρ' => gets ((k.rd ρ').bind D.bool?) fun b => Pb b ρ' := rfl
@[simp↓] theorem z_dNot : dNot tt ⟨s0 :: l0, pn⟩ Pb = tt ⟨s0 :: l0, pn⟩ fun b ρ' => Pb (!b) ρ' := rfl
@[simp↓] theorem z_dAnd : dAnd tt ut ⟨s0 :: l0, pn⟩ Pb = tt ⟨s0 :: l0, pn⟩ fun b ρ' => if b = true then ut ρ' Pb else Pb false ρ' := rfl
@[simp↓] theorem z_dOr : dOr tt ut ⟨s0 :: l0, pn⟩ Pb = tt ⟨s0 :: l0, pn⟩ fun b ρ' => if b = true then Pb true ρ' else ut ρ' Pb := rfl
@[simp↓] theorem z_dAndV : dAndV tv uv ⟨s0 :: l0, pn⟩ P = tv ⟨s0 :: l0, pn⟩ fun r ρ1 => gets (D.bool? r.d) fun b => if b = true then uv ρ1 P else P (.val (.bool false)) ρ1 := rfl
@[simp↓] theorem z_dOrV : dOrV tv uv ⟨s0 :: l0, pn⟩ P = tv ⟨s0 :: l0, pn⟩ fun r ρ1 => gets (D.bool? r.d) fun b => if b = true then P (.val (.bool true)) ρ1 else uv ρ1 P := rfl
@[simp↓] theorem z_dNotV : dNotV tv ⟨s0 :: l0, pn⟩ P = tv ⟨s0 :: l0, pn⟩ fun r ρ1 => gets (D.bool? r.d) fun b => P (.val (.bool (!b))) ρ1 := rfl
@[simp↓] theorem z_dIf : dIf tt ta tb ⟨s0 :: l0, pn⟩ Po = tt ⟨s0 :: l0, pn⟩ fun b ρ1 => if b = true then ta ρ1 Po else tb ρ1 Po := rfl
@[simp↓] theorem z_dIfE : dIfE tt tv uv ⟨s0 :: l0, pn⟩ P = tt ⟨s0 :: l0, pn⟩ fun b ρ1 => if b = true then tv ρ1 P else uv ρ1 P := rfl
@[simp↓] theorem z_dChain : dChain gg g' ta tb tc ⟨s0 :: l0, pn⟩ P = ta ⟨s0 :: l0, pn⟩ fun k1 ρ1 => tb ρ1 fun k2 ρ2 => gets (k1.rd ρ2) fun d1 => gets (k2.rd ρ2) fun d2 => gets ((gg d1 d2).bind Rs.b?) fun b =>
  if b = true then tc ρ2 fun k3 ρ3 => gets (k2.rd ρ3) fun d2' => gets (k3.rd ρ3) fun d3 => gets (g' d2' d3) fun r => P r ρ3 else P (.val (.bool false)) ρ2 := rfl
@[simp↓] theorem z_aNil : aNil ⟨s0 :: l0, pn⟩ Pa = Pa [] ⟨s0 :: l0, pn⟩ := rfl
@[simp↓] theorem z_aCons : aCons ta aa ⟨s0 :: l0, pn⟩ Pa = ta ⟨s0 :: l0, pn⟩ fun k ρ1 => aa ρ1 fun ks ρ2 => Pa (k :: ks) ρ2 := rfl
@[simp↓] theorem z_dCB : dCB gl aa ⟨s0 :: l0, pn⟩ P = aa ⟨s0 :: l0, pn⟩ fun ks ρ1 => gets (rds ρ1 ks) fun ds => gets (gl ds) fun r => P r ρ1 := rfl
@[simp↓] theorem z_dDisp {mk : List D → Rs} : dDisp mk aa ⟨s0 :: l0, pn⟩ P = aa ⟨s0 :: l0, pn⟩ fun ks ρ1 => gets (vals ks) fun ds => ds.length ≤ 1000 ∧ P (mk ds) ρ1 := rfl
@[simp↓] theorem z_dDispT : dDisp mkT aa ⟨s0 :: l0, pn⟩ P = aa ⟨s0 :: l0, pn⟩ fun ks ρ1 => gets (vals ks) fun ds => ds.length ≤ 1000 ∧ P (.val (.tuple ds)) ρ1 := rfl
@[simp↓] theorem z_dCall {dsp : DSp S} : dCall n dsp aa ⟨s0 :: l0, pn⟩ P = aa ⟨s0 :: l0, pn⟩ fun ks ρ1 => gets (toArgs ρ1 ks) fun as => as.length = n ∧ dsp as ρ1.pn fun d pn' => P (.val d) ⟨ρ1.sl, pn'⟩ := rfl
@[simp↓] theorem z_pNone : pNone ⟨s0 :: l0, pn⟩ Pp = Pp none ⟨s0 :: l0, pn⟩ := rfl
@[simp↓] theorem z_pSome : pSome ta ⟨s0 :: l0, pn⟩ Pp = ta ⟨s0 :: l0, pn⟩ fun k ρ1 => gets ((k.rd ρ1).bind D.int?) fun i => Pp (some i) ρ1 := rfl
@[simp↓] theorem z_dSl : dSl ta tl th ⟨s0 :: l0, pn⟩ P = ta ⟨s0 :: l0, pn⟩ fun k ρ1 => tl ρ1 fun l ρ2 => th ρ2 fun h ρ3 => gets (k.rd ρ3) fun d => gets (slD d l h) fun r => P r ρ3 := rfl
@[simp↓] theorem z_dScr : dScr i tl th ⟨s0 :: l0, pn⟩ P = ((scr? (s0 :: l0) i).isSome = true ∧ tl ⟨s0 :: l0, pn⟩ fun l ρ2 => th ρ2 fun h ρ3 => gets (scr? ρ3.sl i) fun ns => P (.own (cutD (ns.map .int) l h)) ρ3) := rfl
@[simp↓] theorem z_dPen {P : Rs → En (Option Pen) → Prop} {pn : Option (Pen)} {j : Int} : dPen i j ⟨s0 :: l0, pn⟩ P = (isPen (s0 :: l0) i = true ∧ gets pn fun p => gets (penD p j) fun d => P (.val d) ⟨s0 :: l0, pn⟩) := rfl
@[simp↓] theorem z_dAppend : dAppend i ta ⟨s0 :: l0, pn⟩ P = ((own? (s0 :: l0) i).isSome = true ∧ ta ⟨s0 :: l0, pn⟩ fun k ρ1 => gets k.valD fun d => gets (own? ρ1.sl i) fun xs => xs.length < sizeLine ∧ P (.val .none) ⟨ρ1.sl.set i (.own (xs ++ [d])), ρ1.pn⟩) := rfl
@[simp↓] theorem z_dPop : dPop i ⟨s0 :: l0, pn⟩ P = gets (own? (s0 :: l0) i) fun xs => gets (xs[xs.length - 1]?) fun d => P (.val d) ⟨(s0 :: l0).set i (.own xs.dropLast), pn⟩ := rfl
@[simp↓] theorem z_gN : gN i d ⟨s0 :: l0, pn⟩ Pg = Pg ⟨(s0 :: l0).set i (.val d), pn⟩ := rfl
@[simp↓] theorem z_gT : gT n gs (.tuple xs) ⟨s0 :: l0, pn⟩ Pg = (xs.length = n ∧ gs xs ⟨s0 :: l0, pn⟩ Pg) := rfl
@[simp↓] theorem z_gNil : gNil xs ⟨s0 :: l0, pn⟩ Pg = (xs = [] ∧ Pg ⟨s0 :: l0, pn⟩) := rfl
@[simp↓] theorem z_gCons : gCons g gs (d :: xs) ⟨s0 :: l0, pn⟩ Pg = g d ⟨s0 :: l0, pn⟩ fun ρ1 => gs xs ρ1 Pg := rfl
@[simp↓] theorem z_dYes : dYes ⟨s0 :: l0, pn⟩ Pb = Pb true ⟨s0 :: l0, pn⟩ := rfl
@[simp↓] theorem z_iRange1 : iRange1 ta ⟨s0 :: l0, pn⟩ Pi = ta ⟨s0 :: l0, pn⟩ fun k ρ1 => gets ((k.rd ρ1).bind D.int?) fun j => (-(2 ^ 62) ≤ j ∧ j ≤ 16777216) ∧ Pi ⟨[], fun _ => some (rangeD 0 j.toNat)⟩ ρ1 := rfl
@[simp↓] theorem z_iRange2 : iRange2 ta tb ⟨s0 :: l0, pn⟩ Pi = ta ⟨s0 :: l0, pn⟩ fun k ρ1 => tb ρ1 fun k2 ρ2 => gets ((k.rd ρ2).bind D.int?) fun i => gets ((k2.rd ρ2).bind D.int?) fun j => (-(2 ^ 62) ≤ i ∧ i < 2 ^ 62 ∧ -(2 ^ 62) ≤ j ∧ j < 2 ^ 62 ∧ j - i ≤ 16777216) ∧ Pi ⟨[], fun _ => some (rangeD i (j - i).toNat)⟩ ρ2 := rfl
@[simp↓] theorem z_iEn : iEn aa ⟨s0 :: l0, pn⟩ Pi = aa ⟨s0 :: l0, pn⟩ fun ks ρ1 => match ks with
  | [k] => gets ((k.rd ρ1).bind kindD) fun c => Pi ⟨[k], enumF c⟩ ρ1
  | _ => False := rfl
@[simp↓] theorem z_iZp {st : Bool} : iZp st aa ⟨s0 :: l0, pn⟩ Pi = aa ⟨s0 :: l0, pn⟩ fun ks ρ1 => match ks with
  | [k, k2] => gets ((k.rd ρ1).bind kindD) fun c1 => gets ((k2.rd ρ1).bind kindD) fun c2 => Pi ⟨[k, k2], zipF st c1 c2⟩ ρ1
  | _ => False := rfl
@[simp↓] theorem z_iSeq : iSeq ta ⟨s0 :: l0, pn⟩ Pi = ta ⟨s0 :: l0, pn⟩ fun k ρ1 => gets (k.rd ρ1) fun d => match d with
  | .list _ => Pi ⟨[k], listF⟩ ρ1
  | .tuple _ => Pi ⟨[k], tupF⟩ ρ1
  | _ => False := rfl
@[simp↓] theorem g_some {α : Type} {a : α} {k : α → Prop} : gets (some a) k = k a := rfl
@[simp↓] theorem g_tmpV {ρ : En S} {k : D → Prop} : gets (Tk.rd ρ (.tmp (.val d))) k = k d := rfl
@[simp↓] theorem g_tmpO {ρ : En S} {k : D → Prop} : gets (Tk.rd ρ (.tmp (.own xs))) k = k (.list xs) := rfl
@[simp↓] theorem g_tmpM {ρ : En S} {k : D → Prop} : gets (Tk.rd ρ (.tmp (mkT xs))) k = k (.tuple xs) := rfl
@[simp↓] theorem g_boolM {k : Bool → Prop} : gets (D.bool? (Rs.d (mkT xs))) k = False := rfl
@[simp↓] theorem g_bt {ρ : En S} {k : D → Prop} : gets (Tk.rd ρ (.bt xs)) k = k (.list xs) := rfl
@[simp↓] theorem g_slot {k : D → Prop} : gets (Tk.rd ⟨s0 :: l0, pn⟩ (.slot i)) k = gets (rdS (s0 :: l0) i) k := by rw [← rdS_eq]; rfl
@[simp↓] theorem g_rv {k : D → Prop} : gets (rdS (.val d :: l0) 0) k = k d := rfl
@[simp↓] theorem g_ro {k : D → Prop} : gets (rdS (.own xs :: l0) 0) k = k (.list xs) := rfl
@[simp↓] theorem g_rb {k : D → Prop} : gets (rdS (.bor xs :: l0) 0) k = k (.list xs) := rfl
@[simp↓] theorem g_rs {k : D → Prop} : gets (rdS (s0 :: l0) (n + 1)) k = gets (rdS l0 n) k := rfl
@[simp↓] theorem g_bind {α β : Type} {o : Option α} {f : α → Option β} {k : β → Prop} : gets (o.bind f) k = gets o fun a => gets (f a) k := by cases o <;> rfl
@[simp↓] theorem g_map {α β : Type} {o : Option α} {f : α → β} {k : β → Prop} : gets (o.map f) k = gets o fun a => k (f a) := by cases o <;> rfl
@[simp↓] theorem g_ite {α : Type} {c : Prop} [Decidable c] {a : α} {k : α → Prop} : gets (if c then some a else none) k = (c ∧ k a) := by by_cases h : c <;> simp [h]
@[simp↓] theorem g_bool {b : Bool} {k : Bool → Prop} : gets (D.bool? (.bool b)) k = k b := rfl
@[simp↓] theorem g_boolV {r : D} {k : Bool → Prop} : gets (D.bool? (Rs.d (.val r))) k = gets (D.bool? r) k := rfl
@[simp↓] theorem g_int {i : Int} {k : Int → Prop} : gets (D.int? (.int i)) k = k i := rfl
@[simp↓] theorem g_intV {r : D} {k : Int → Prop} : gets (D.int? (Rs.d (.val r))) k = gets (D.int? r) k := rfl
@[simp↓] theorem g_Rsb {r : Rs} {k : Bool → Prop} : gets (Rs.b? r) k = gets (D.bool? r.d) k := rfl
@[simp↓] theorem g_lt {i j : Int} {k : Rs → Prop} : gets (ltD (.int i) (.int j)) k = k (.val (.bool (decide (i < j)))) := rfl
@[simp↓] theorem g_le {i j : Int} {k : Rs → Prop} : gets (leD (.int i) (.int j)) k = k (.val (.bool (decide (i ≤ j)))) := rfl
@[simp↓] theorem g_gt {i j : Int} {k : Rs → Prop} : gets (gtD (.int i) (.int j)) k = k (.val (.bool (decide (j < i)))) := rfl
@[simp↓] theorem g_ge {i j : Int} {k : Rs → Prop} : gets (geD (.int i) (.int j)) k = k (.val (.bool (decide (j ≤ i)))) := rfl
@[simp↓] theorem g_addI {i j : Int} {k : Rs → Prop} : gets (addD (.int i) (.int j)) k = k (.val (.int (i + j))) := rfl
@[simp↓] theorem g_addL {ys : List D} {k : Rs → Prop} : gets (addD (.list xs) (.list ys)) k = (xs.length + ys.length ≤ sizeLine ∧ k (.own (xs ++ ys))) := by unfold addD; exact g_ite
@[simp↓] theorem g_addT {ys : List D} {k : Rs → Prop} : gets (addD (.tuple xs) (.tuple ys)) k = (xs.length + ys.length ≤ sizeLine ∧ k (.val (.tuple (xs ++ ys)))) := by unfold addD; exact g_ite
@[simp↓] theorem g_sub {i j : Int} {k : Rs → Prop} : gets (subD (.int i) (.int j)) k = k (.val (.int (i - j))) := rfl
@[simp↓] theorem g_mulI {i j : Int} {k : Rs → Prop} : gets (mulT (.int i) (.int j)) k = (CMulW i j ∧ k (.val (.int (i * j)))) := by unfold mulT mulD; exact g_ite
@[simp↓] theorem g_mulT {i : Int} {k : Rs → Prop} : gets (mulT (.tuple xs) (.int i)) k = ((xs ≠ [] ∧ 1 ≤ i ∧ i ≤ 1000 ∧ xs.length ≤ 1000) ∧ k (.val (.tuple (List.replicate i.toNat xs).flatten))) := by unfold mulT; exact g_ite
@[simp↓] theorem g_mulL {i : Int} {k : Rs → Prop} : gets (mulT (.list xs) (.int i)) k = ((-(2 ^ 63) ≤ i ∧ i < 2 ^ 63 ∧ xs.length * i.toNat ≤ sizeLine) ∧ k (.own (List.replicate i.toNat xs).flatten)) := by unfold mulT mulD; exact g_ite
@[simp↓] theorem g_addS {x y : Str} {k : Rs → Prop} : gets (addD (.str x) (.str y)) k = (x.length + y.length ≤ sizeLine ∧ k (.val (.str (x ++ y)))) := by unfold addD; exact g_ite
@[simp↓] theorem g_fdiv {i j : Int} {k : Rs → Prop} : gets (fdivD (.int i) (.int j)) k = (CDivW i j ∧ k (.val (.int (i / j)))) := by unfold fdivD; exact g_ite
@[simp↓] theorem g_mod {i j : Int} {k : Rs → Prop} : gets (modD (.int i) (.int j)) k = (0 < j ∧ k (.val (.int (i % j)))) := by unfold modD; exact g_ite
@[simp↓] theorem g_pow {i j : Int} {k : Rs → Prop} : gets (powD (.int i) (.int j)) k = (CPow i j ∧ k (.val (.int (i ^ j.toNat)))) := by unfold powD; exact g_ite
@[simp↓] theorem g_neg {i : Int} {k : Rs → Prop} : gets (negD (.int i)) k = k (.val (.int (-i))) := rfl
@[simp↓] theorem g_ixL {i : Int} {k : Rs → Prop} : gets (ixD (.list xs) (.int i)) k = gets (atI xs i) fun d => k (.val d) := g_map
@[simp↓] theorem g_ixT {i : Int} {k : Rs → Prop} : gets (ixD (.tuple xs) (.int i)) k = gets (atI xs i) fun d => k (.val d) := g_map
@[simp↓] theorem g_at0 {k : D → Prop} : gets (atI (d :: xs) 0) k = k d := by rw [v_atI0]; rfl
@[simp↓] theorem g_at1 {e : D} {k : D → Prop} : gets (atI (d :: e :: xs) 1) k = k e := by rw [v_atI1]; rfl
@[simp↓] theorem g_slL {l h : Option Int} {k : Rs → Prop} : gets (slD (.list xs) l h) k = k (.own (cutD xs l h)) := rfl
@[simp↓] theorem g_slT {l h : Option Int} {k : Rs → Prop} : gets (slD (.tuple xs) l h) k = k (.val (.tuple (cutD xs l h))) := rfl
@[simp↓] theorem g_revL {k : Rs → Prop} : gets (revD (.list xs)) k = k (.own xs.reverse) := rfl
@[simp↓] theorem g_revT {k : Rs → Prop} : gets (revD (.tuple xs)) k = k (.val (.tuple xs.reverse)) := rfl
@[simp↓] theorem g_lenL {k : Rs → Prop} : gets (lenD [.list xs]) k = k (.val (.int xs.length)) := rfl
@[simp↓] theorem g_lenT {k : Rs → Prop} : gets (lenD [.tuple xs]) k = k (.val (.int xs.length)) := rfl
@[simp↓] theorem g_listL {k : Rs → Prop} : gets (listD [.list xs]) k = k (.own xs) := rfl
@[simp↓] theorem g_listT {k : Rs → Prop} : gets (listD [.tuple xs]) k = k (.own xs) := rfl
@[simp↓] theorem g_tupL {k : Rs → Prop} : gets (tupleD [.list xs]) k = k (.val (.tuple xs)) := rfl
@[simp↓] theorem g_tupT {k : Rs → Prop} : gets (tupleD [.tuple xs]) k = k (.val (.tuple xs)) := rfl
@[simp↓] theorem g_intI {i : Int} {k : Rs → Prop} : gets (intD [.int i]) k = k (.val (.int i)) := rfl
@[simp↓] theorem g_intB {b : Bool} {k : Rs → Prop} : gets (intD [.bool b]) k = k (.val (.int (if b then 1 else 0))) := rfl
@[simp↓] theorem g_sumL {k : Rs → Prop} : gets (sumD [.list xs]) k = gets (ints? xs) fun ns => k (.val (.int ns.sum)) := g_map
@[simp↓] theorem g_sumT {k : Rs → Prop} : gets (sumD [.tuple xs]) k = gets (ints? xs) fun ns => k (.val (.int ns.sum)) := g_map
@[simp↓] theorem g_minL {k : Rs → Prop} : gets (minD [.list xs]) k = gets (ints? xs) fun ns => gets (minI ns) fun m => k (.val (.int m)) := by show gets ((ints? xs).bind _) k = _; rw [g_bind]; congr 1; funext ns; exact g_map
@[simp↓] theorem g_allL {k : Rs → Prop} : gets (allD [.list xs]) k = gets (bls? xs) fun bs => k (.val (.bool (bs.all id))) := g_map
@[simp↓] theorem g_maxL {k : Rs → Prop} : gets (maxD [.list xs]) k = gets (ints? xs) fun ns => gets (maxI ns) fun m => k (.val (.int m)) := by show gets ((ints? xs).bind _) k = _; rw [g_bind]; congr 1; funext ns; exact g_map
@[simp↓] theorem g_max2 {i j : Int} {k : Rs → Prop} : gets (maxD [.int i, .int j]) k = k (.val (.int (max i j))) := rfl
@[simp↓] theorem g_eq {e : D} {k : Rs → Prop} : gets (eqD d e) k = (eqOk d e = true ∧ k (.val (.bool (PyData.eqv d e)))) := by unfold eqD; exact g_ite
@[simp↓] theorem g_ne {e : D} {k : Rs → Prop} : gets (neD d e) k = (eqOk d e = true ∧ k (.val (.bool (!PyData.eqv d e)))) := by unfold neD; exact g_ite
@[simp↓] theorem g_is {k : Rs → Prop} : gets (isD false d .none) k = k (.val (.bool (isNone d))) := rfl
@[simp↓] theorem g_isn {k : Rs → Prop} : gets (isD true d .none) k = k (.val (.bool (!isNone d))) := rfl
@[simp↓] theorem g_repr {k : Rs → Prop} : gets (reprD [d]) k = (reprOk d ∧ k (.val (.str d.shown))) := by unfold reprD; exact g_ite
@[simp↓] theorem g_vals0 {k : List D → Prop} : gets (vals []) k = k [] := rfl
@[simp↓] theorem g_vals {ks : List Tk} {k : List D → Prop} : gets (vals (.tmp (.val d) :: ks)) k = gets (vals ks) fun ds => k (d :: ds) := g_bind
@[simp↓] theorem g_rds0 {ρ : En S} {k : List D → Prop} : gets (rds ρ []) k = k [] := rfl
@[simp↓] theorem g_rds {ρ : En S} {kk : Tk} {ks : List Tk} {k : List D → Prop} : gets (rds ρ (kk :: ks)) k = gets (kk.rd ρ) fun d => gets (rds ρ ks) fun ds => k (d :: ds) := by rw [rds_cons, g_bind]; congr 1; funext d; exact g_bind
@[simp↓] theorem g_ta0 {ρ : En S} {k : List Arg → Prop} : gets (toArgs ρ []) k = k [] := rfl
@[simp↓] theorem g_ta {ρ : En S} {kk : Tk} {ks : List Tk} {k : List Arg → Prop} : gets (toArgs ρ (kk :: ks)) k = gets (toArg ρ kk) fun d => gets (toArgs ρ ks) fun ds => k (d :: ds) := by rw [v_toArgs_cons, g_bind]; congr 1; funext d; exact g_bind
@[simp↓] theorem g_taT {ρ : En S} {k : Arg → Prop} : gets (toArg ρ (.tmp (.val d))) k = k (.val d) := rfl
@[simp↓] theorem g_taS {k : Arg → Prop} : gets (toArg ⟨s0 :: l0, pn⟩ (.slot i)) k = gets (argS (s0 :: l0) i) k := by rw [← argS_eq]; rfl
@[simp↓] theorem g_asV {k : Arg → Prop} : gets (argS (.val d :: l0) 0) k = k (.val d) := rfl
@[simp↓] theorem g_asO {k : Arg → Prop} : gets (argS (.own xs :: l0) 0) k = k (.bor xs) := rfl
@[simp↓] theorem g_asB {k : Arg → Prop} : gets (argS (.bor xs :: l0) 0) k = k (.bor xs) := rfl
@[simp↓] theorem g_asP {k : Arg → Prop} : gets (argS (.pen :: l0) 0) k = k .pen := rfl
@[simp↓] theorem g_asS {k : Arg → Prop} : gets (argS (s0 :: l0) (n + 1)) k = gets (argS l0 n) k := rfl
@[simp↓] theorem g_tm0 {k : List Rs → Prop} : gets (tmps []) k = k [] := rfl
@[simp↓] theorem g_tm {r : Rs} {ks : List Tk} {k : List Rs → Prop} : gets (tmps (.tmp r :: ks)) k = gets (tmps ks) fun rs => k (r :: rs) := g_map
@[simp↓] theorem g_vd {k : D → Prop} : gets (Tk.valD (.tmp (.val d))) k = k d := rfl
@[simp↓] theorem g_p0 {p : Pen} {k : D → Prop} : gets (penD p 0) k = k (.list (p.cells.map .int)) := rfl
@[simp↓] theorem g_p1 {p : Pen} {k : D → Prop} : gets (penD p 1) k = k (.int p.at_) := rfl
@[simp↓] theorem g_p2 {p : Pen} {k : D → Prop} : gets (penD p 2) k = k (.int p.cur) := rfl
@[simp↓] theorem g_q1 {p : Pen} {i : Int} {k : Pen → Prop} : gets (penSet p i 1) k = k ⟨p.cells, i, p.cur⟩ := rfl
@[simp↓] theorem g_q2 {p : Pen} {i : Int} {k : Pen → Prop} : gets (penSet p i 2) k = k ⟨p.cells, p.at_, i⟩ := rfl
@[simp↓] theorem g_kdL {k : Bool → Prop} : gets (kindD (.list xs)) k = k false := rfl
@[simp↓] theorem g_kdT {k : Bool → Prop} : gets (kindD (.tuple xs)) k = k true := rfl
@[simp↓] theorem g_itR {ρ : En S} {ys : List D} {k : List D → Prop} : gets (Sc.items ⟨[], fun _ => some ys⟩ ρ) k = k ys := rfl
@[simp↓] theorem g_it1 {ρ : En S} {kk : Tk} {f : List D → Option (List D)} {k : List D → Prop} : gets (Sc.items ⟨[kk], f⟩ ρ) k = gets (kk.rd ρ) fun d => gets (f [d]) k := by unfold Sc.items; rw [g_bind, g_rds]; rfl
@[simp↓] theorem g_it2 {ρ : En S} {k1 k2 : Tk} {f : List D → Option (List D)} {k : List D → Prop} : gets (Sc.items ⟨[k1, k2], f⟩ ρ) k = gets (k1.rd ρ) fun d => gets (k2.rd ρ) fun e => gets (f [d, e]) k := by unfold Sc.items; rw [g_bind, g_rds]; congr 1; funext d; rw [g_rds]; rfl
@[simp↓] theorem g_lF {k : List D → Prop} : gets (listF [.list xs]) k = k xs := rfl
@[simp↓] theorem g_tF {k : List D → Prop} : gets (tupF [.tuple xs]) k = k xs := rfl
@[simp↓] theorem g_eFL {k : List D → Prop} : gets (enumF false [.list xs]) k = k (enumL 0 xs) := rfl
@[simp↓] theorem g_eFT {k : List D → Prop} : gets (enumF true [.tuple xs]) k = k (enumL 0 xs) := rfl
@[simp↓] theorem g_zNlistlist {ys : List D} {k : List D → Prop} : gets (zipF false false false [.list xs, .list ys]) k = k (pairL xs ys) := rfl
@[simp↓] theorem g_zSlistlist {ys : List D} {k : List D → Prop} : gets (zipF true false false [.list xs, .list ys]) k = (xs.length = ys.length ∧ k (pairL xs ys)) := by unfold zipF; simp only [Option.bind_some, seqK_list, seqK_list]; by_cases h : xs.length = ys.length <;> simp [h]
@[simp↓] theorem g_zNlisttuple {ys : List D} {k : List D → Prop} : gets (zipF false false true [.list xs, .tuple ys]) k = k (pairL xs ys) := rfl
@[simp↓] theorem g_zSlisttuple {ys : List D} {k : List D → Prop} : gets (zipF true false true [.list xs, .tuple ys]) k = (xs.length = ys.length ∧ k (pairL xs ys)) := by unfold zipF; simp only [Option.bind_some, seqK_list, seqK_tuple]; by_cases h : xs.length = ys.length <;> simp [h]
@[simp↓] theorem g_zNtuplelist {ys : List D} {k : List D → Prop} : gets (zipF false true false [.tuple xs, .list ys]) k = k (pairL xs ys) := rfl
@[simp↓] theorem g_zStuplelist {ys : List D} {k : List D → Prop} : gets (zipF true true false [.tuple xs, .list ys]) k = (xs.length = ys.length ∧ k (pairL xs ys)) := by unfold zipF; simp only [Option.bind_some, seqK_tuple, seqK_list]; by_cases h : xs.length = ys.length <;> simp [h]
@[simp↓] theorem g_zNtupletuple {ys : List D} {k : List D → Prop} : gets (zipF false true true [.tuple xs, .tuple ys]) k = k (pairL xs ys) := rfl
@[simp↓] theorem g_zStupletuple {ys : List D} {k : List D → Prop} : gets (zipF true true true [.tuple xs, .tuple ys]) k = (xs.length = ys.length ∧ k (pairL xs ys)) := by unfold zipF; simp only [Option.bind_some, seqK_tuple, seqK_tuple]; by_cases h : xs.length = ys.length <;> simp [h]
end
end Dk
namespace Dk
open PySem PySem.Spec PyProof.Rows L2
variable {S : Type} [StK S]
theorem forW_inv {g : (GW S)} {b : (DS S)} {E : (DE S)} {items : List D} (J : Nat → (En S) → Prop)
    (step : ∀ (i : Nat) (d : D) (ρ : (En S)), items[i]? = some d → J i ρ → ∀ N : (En S) → Prop, (∀ ρ', J (i + 1) ρ' → N ρ') → g d ρ fun ρ1 => b { nx := N, rt := E.rt, bk := E.nx, ct := N } ρ1)
    (fin : ∀ ρ, J items.length ρ → E.nx ρ) {ρ : (En S)} (h0 : J 0 ρ) : forW g b E items ρ := by
  have key : ∀ (n i : Nat) (ρ : (En S)), i + n = items.length → J i ρ → forW g b E (items.drop i) ρ := by
    intro n
    induction n with
    | zero =>
      intro i ρ e h
      rw [List.drop_eq_nil_of_le (by omega)]
      exact fin ρ (by rw [← show i = items.length by omega]; exact h)
    | succ n ih =>
      intro i ρ e h
      have hi : i < items.length := by omega
      rw [List.drop_eq_getElem_cons hi]
      exact step i items[i] ρ (List.getElem?_eq_getElem hi) h _ fun ρ' h' => ih (i + 1) ρ' (by omega) h'
  exact key items.length 0 ρ (by omega) h0
theorem lcW_inv {c : Sc} {items : List D} {g : (GW S)} {tt : (BW S)} {te : (OW S)} {vs : List Nat} {Q : List D → (En S) → Prop} (J : Nat → List D → (En S) → Prop)
    (its : ∀ i acc ρ, J i acc ρ → c.items ρ = some items)
    (step : ∀ (i : Nat) (d : D) (acc : List D) (ρ : (En S)), items[i]? = some d → J i acc ρ → ∀ N : List D → (En S) → Prop, (∀ acc' ρ', J (i + 1) acc' ρ' → N acc' ρ') →
      g d ρ fun ρ1 => tt ρ1 fun b ρ2 => if b = true then te ρ2 fun k ρ3 => gets k.valD fun y => N (acc ++ [y]) ⟨wipeD ρ3.sl vs, ρ3.pn⟩ else N acc ⟨wipeD ρ2.sl vs, ρ2.pn⟩)
    (fin : ∀ acc ρ, J items.length acc ρ → Q acc ρ) {ρ : (En S)} (h0 : J 0 [] ρ) : lcW c items g tt te vs Q items [] ρ := by
  have key : ∀ (n i : Nat) (acc : List D) (ρ : (En S)), i + n = items.length → J i acc ρ → lcW c items g tt te vs Q (items.drop i) acc ρ := by
    intro n
    induction n with
    | zero =>
      intro i acc ρ e h
      rw [List.drop_eq_nil_of_le (by omega)]
      exact ⟨its _ _ _ h, fin acc ρ (by rw [← show i = items.length by omega]; exact h)⟩
    | succ n ih =>
      intro i acc ρ e h
      have hi : i < items.length := by omega
      rw [List.drop_eq_getElem_cons hi]
      exact ⟨its _ _ _ h, step i items[i] acc ρ (List.getElem?_eq_getElem hi) h (fun acc ρ => lcW c items g tt te vs Q (items.drop (i + 1)) acc ρ) fun acc' ρ' h' => ih (i + 1) acc' ρ' (by omega) h'⟩
  exact key items.length 0 [] ρ (by omega) h0
inductive All2 (R : D → D → Prop) : List D → List D → Prop
  | nil : All2 R [] []
  | cons {x y : D} {xs ys : List D} : R x y → All2 R xs ys → All2 R (x :: xs) (y :: ys)
theorem All2.snoc {R : D → D → Prop} {x y : D} : ∀ {xs ys : List D}, All2 R xs ys → R x y → All2 R (xs ++ [x]) (ys ++ [y])
  | _, _, .nil, h => .cons h .nil
  | _, _, .cons a r, h => .cons a (r.snoc h)
theorem All2.len {R : D → D → Prop} : ∀ {xs ys : List D}, All2 R xs ys → xs.length = ys.length
  | _, _, .nil => rfl
  | _, _, .cons _ r => by rw [List.length_cons, List.length_cons, r.len]
theorem cut0 (ds : List D) (n : Nat) : cutD ds none (some (n : Int)) = ds.take n := by
  unfold cutD
  rw [show HT.sIx ds.length 0 none = 0 from rfl, HT.sIx_nat]
  simp
theorem cutN (ds : List D) (m n : Nat) : cutD ds (some (m : Int)) (some (n : Int)) = (ds.drop (min m ds.length)).take (min n ds.length - min m ds.length) := by
  unfold cutD
  rw [HT.sIx_nat, HT.sIx_nat]
end Dk
namespace Dk
open PySem PySem.Spec PyProof.Rows L2
mutual
def wgt : D → Nat
  | .none => PyData.none.shown.length
  | .bool b => (PyData.bool b).shown.length
  | .int i => (PyData.int i).shown.length
  | .str x => (PyData.str x).shown.length
  | .list ds => wgts ds + 3
  | .tuple ds => wgts ds + 3
  | .dict kvs => (PyData.dict kvs).shown.length
def wgts : List D → Nat
  | [] => 0
  | d :: ds => wgt d + 2 + wgts ds
end
theorem wgts_nil : wgts [] = 0 := rfl
theorem wgts_cons {d : D} {ds : List D} : wgts (d :: ds) = wgt d + 2 + wgts ds := by rw [wgts]
theorem wgt_tuple {ds : List D} : wgt (.tuple ds) = wgts ds + 3 := by rw [wgt]
theorem wgt_list {ds : List D} : wgt (.list ds) = wgts ds + 3 := by rw [wgt]
theorem wgts_append : ∀ {ds es : List D}, wgts (ds ++ es) = wgts ds + wgts es
  | [], es => by simp [wgts_nil]
  | d :: ds, es => by rw [List.cons_append, wgts_cons, wgts_cons, wgts_append]; omega
mutual
theorem shown_le : ∀ d : D, d.shown.length ≤ wgt d
  | .none => by rw [wgt]; exact Nat.le_refl _
  | .bool b => by rw [wgt]; exact Nat.le_refl _
  | .int i => by rw [wgt]; exact Nat.le_refl _
  | .str x => by rw [wgt]; exact Nat.le_refl _
  | .list ds => by
    rw [wgt_list]
    have h := listText_len_le (PyData.shownAll ds)
    have h2 := shownAll_le ds
    show (listText (PyData.shownAll ds)).length ≤ _
    omega
  | .tuple ds => by
    rw [wgt_tuple]
    have h := tupleText_len_le (PyData.shownAll ds)
    have h2 := shownAll_le ds
    show (tupleText (PyData.shownAll ds)).length ≤ _
    omega
  | .dict kvs => by rw [wgt]; exact Nat.le_refl _
theorem shownAll_le : ∀ ds : List D, ((PyData.shownAll ds).map (·.length)).sum + 2 * (PyData.shownAll ds).length ≤ wgts ds
  | [] => by simp [PyData.shownAll]
  | d :: ds => by
    rw [wgts_cons]
    have h1 := shown_le d
    have h2 := shownAll_le ds
    simp only [PyData.shownAll, List.map_cons, List.sum_cons, List.length_cons]
    omega
end
mutual
def pl : D → Bool
  | .none => true
  | .bool _ => true
  | .int i => decide (i.natAbs.log2 < 1920)
  | .str x => PyData.strOk x
  | .list _ => false
  | .tuple ds => plA ds
  | .dict _ => false
def plA : List D → Bool
  | [] => true
  | d :: ds => pl d && plA ds
end
theorem pl_tuple {ds : List D} : pl (.tuple ds) = plA ds := by rw [pl]
theorem plA_iff : ∀ {ds : List D}, plA ds = true ↔ ∀ d ∈ ds, pl d = true
  | [] => by simp [plA]
  | d :: ds => by
    rw [plA, Bool.and_eq_true, plA_iff]
    simp
theorem pl_int {i : Int} (h : i.natAbs < 1267650600228229401496703205376) : pl (.int i) = true := by
  rw [pl, decide_eq_true_eq]
  by_cases h0 : i.natAbs = 0
  · rw [h0]; decide
  · have : i.natAbs.log2 < 101 := (Nat.log2_lt h0).mpr (Nat.lt_of_lt_of_le h (by decide))
    omega
mutual
theorem pl_all : ∀ {d : D}, pl d = true → d.showable = true ∧ noList d = true ∧ d.hasDict = false ∧ d.canLay0 = true
  | .none, _ => ⟨rfl, rfl, rfl, rfl⟩
  | .bool b, _ => ⟨rfl, rfl, rfl, rfl⟩
  | .int i, h => ⟨by rw [pl] at h; exact h, rfl, rfl, rfl⟩
  | .str x, h => ⟨rfl, rfl, rfl, by rw [pl] at h; exact h⟩
  | .list ds, h => by rw [pl] at h; cases h
  | .tuple ds, h => by
    rw [pl_tuple] at h
    obtain ⟨h1, h2, h3, h4⟩ := plA_all h
    exact ⟨by rw [PyData.showable]; exact h1, by rw [noList]; exact h2, by rw [PyData.hasDict]; exact h3, by rw [PyData.canLay0]; exact h4⟩
  | .dict kvs, h => by rw [pl] at h; cases h
theorem plA_all : ∀ {ds : List D}, plA ds = true → PyData.showableAll ds = true ∧ noLists ds = true ∧ PyData.hasDictAll ds = false ∧ PyData.canLayAll0 ds = true
  | [], _ => ⟨rfl, rfl, rfl, rfl⟩
  | d :: ds, h => by
    rw [plA, Bool.and_eq_true] at h
    obtain ⟨h1, h2, h3, h4⟩ := pl_all h.1
    obtain ⟨g1, g2, g3, g4⟩ := plA_all h.2
    exact ⟨by rw [PyData.showableAll, h1, g1]; rfl, by rw [noLists, h2, g2]; rfl, by rw [PyData.hasDictAll, h3, g3]; rfl, by rw [PyData.canLayAll0, h4, g4]; rfl⟩
end
theorem depthAll_le : ∀ {ds : List D} {h : Nat}, PyData.depthAll ds ≤ h ↔ ∀ d ∈ ds, d.depth ≤ h
  | [], h => by simp [PyData.depthAll]
  | d :: ds, h => by
    rw [PyData.depthAll, Nat.max_le, depthAll_le]
    simp
theorem depth_tuple {ds : List D} : (PyData.tuple ds).depth = PyData.depthAll ds + 1 := by rw [PyData.depth]
theorem depth_list {ds : List D} : (PyData.list ds).depth = PyData.depthAll ds + 1 := by rw [PyData.depth]
theorem depth_mem {ds : List D} {d : D} (h : d ∈ ds) : d.depth ≤ PyData.depthAll ds := depthAll_le.mp (Nat.le_refl _) d h
structure Vw (W h : Nat) (d : D) : Prop where
  sh : d.showable = true
  w : wgt d ≤ W
  dp : d.depth ≤ h
  ld : noList d = true ∨ d.hasDict = false
theorem Vw.mono {W h W' h' : Nat} {d : D} (c : Vw W h d) (hw : W ≤ W') (hh : h ≤ h') : Vw W' h' d := ⟨c.sh, Nat.le_trans c.w hw, Nat.le_trans c.dp hh, c.ld⟩
theorem showA_iff : ∀ {ds : List D}, PyData.showableAll ds = true ↔ ∀ d ∈ ds, d.showable = true
  | [] => by simp [PyData.showableAll]
  | d :: ds => by
    rw [PyData.showableAll, Bool.and_eq_true, showA_iff]
    simp
theorem noLists_iff : ∀ {ds : List D}, noLists ds = true ↔ ∀ d ∈ ds, noList d = true
  | [] => by simp [noLists]
  | d :: ds => by
    rw [noLists, Bool.and_eq_true, noLists_iff]
    simp
theorem hasDictAll_iff : ∀ {ds : List D}, PyData.hasDictAll ds = false ↔ ∀ d ∈ ds, d.hasDict = false
  | [] => by simp [PyData.hasDictAll]
  | d :: ds => by
    rw [PyData.hasDictAll, Bool.or_eq_false_iff, hasDictAll_iff]
    simp
theorem Vw.around {W h : Nat} {xs ys : List D} {d : D} (c : Vw W h d) (hx : plA xs = true) (hy : plA ys = true) (dx : PyData.depthAll xs ≤ h) (dy : PyData.depthAll ys ≤ h) : Vw (wgts xs + (W + 2) + wgts ys + 3) (h + 1) (.tuple (xs ++ d :: ys)) := by
  have ax := plA_iff.mp hx
  have ay := plA_iff.mp hy
  have mem : ∀ {e : D}, e ∈ xs ++ d :: ys → pl e = true ∨ e = d := fun {e} he => by
    rcases List.mem_append.mp he with he | he
    · exact .inl (ax e he)
    · rcases List.mem_cons.mp he with he | he
      · exact .inr he
      · exact .inl (ay e he)
  refine ⟨?_, ?_, ?_, ?_⟩
  · rw [PyData.showable, showA_iff]
    intro e he
    rcases mem he with p | rfl
    · exact (pl_all p).1
    · exact c.sh
  · rw [wgt_tuple, wgts_append, wgts_cons]
    have := c.w
    omega
  · rw [depth_tuple]
    have : PyData.depthAll (xs ++ d :: ys) ≤ h := depthAll_le.mpr fun e he => by
      rcases List.mem_append.mp he with he | he
      · exact depthAll_le.mp dx e he
      · rcases List.mem_cons.mp he with rfl | he
        · exact c.dp
        · exact depthAll_le.mp dy e he
    omega
  · rcases c.ld with l | l
    · refine .inl ?_
      rw [noList, noLists_iff]
      intro e he
      rcases mem he with p | rfl
      · exact (pl_all p).2.1
      · exact l
    · refine .inr ?_
      rw [PyData.hasDict, hasDictAll_iff]
      intro e he
      rcases mem he with p | rfl
      · exact (pl_all p).2.2.1
      · exact l
theorem Vw.repr {W h : Nat} {d : D} (c : Vw W h d) (hw : W ≤ 16777216) (hh : h ≤ 100) : reprOk d := ⟨c.sh, Nat.le_trans (shown_le d) (Nat.le_trans c.w (by rw [sizeLine_eq]; exact hw)), Nat.le_trans c.dp hh, c.ld⟩
theorem Vw.list {ds : List D} (p : plA ds = true) : Vw (wgt (.list ds)) (PyData.list ds).depth (.list ds) := by
  obtain ⟨h1, _, h3, _⟩ := plA_all p
  exact ⟨by rw [PyData.showable]; exact h1, Nat.le_refl _, Nat.le_refl _, .inr (by rw [PyData.hasDict]; exact h3)⟩
end Dk
namespace Dk
open PySem PySem.Spec PyProof.Rows L2
def Bud (p : Pen) (b : Nat) : Prop := 0 ≤ p.at_ ∧ p.at_ + b ≤ 2147483648
theorem cmul {i j : Int} (hi : i.natAbs < 2 ^ 1000) (hj : j.natAbs < 2 ^ 1000) : CMulW i j := by
  unfold CMulW
  have f : ∀ n : Nat, n < 2 ^ 1000 → n.log2 < 1000 := fun n h => by
    by_cases h0 : n = 0
    · subst h0; decide
    · exact (Nat.log2_lt h0).mpr h
  have := f _ hi
  have := f _ hj
  omega
theorem lt_pow {i : Int} (h0 : 0 ≤ i) (h : i < 1267650600228229401496703205376) : i.natAbs < 2 ^ 1000 := by
  refine Nat.lt_of_lt_of_le (m := 2 ^ 100) ?_ (Nat.pow_le_pow_right (by decide) (by decide))
  have e : (2 : Nat) ^ 100 = 1267650600228229401496703205376 := by decide
  omega
theorem gets_at {xs : List D} {i : Int} {k : D → Prop} (h0 : 0 ≤ i) (h1 : i < xs.length) (h : ∀ d ∈ xs, k d) : gets (atI xs i) k := by
  rw [atI_of h0, List.getElem?_eq_getElem (by omega)]
  exact h _ (List.getElem_mem _)
def spSpread : DSp := fun as pn P => ∃ c a : Int, as = [.val (.int c), .val (.int a)] ∧ 0 ≤ a ∧ a < 2147483648 ∧ ∀ r, P (.int r) pn
def isP : D → Bool
  | .int p => decide (0 < p) && decide (p < 2147483648)
  | _ => false
theorem isP_int {d : D} (h : isP d = true) : ∃ p : Int, d = .int p ∧ 0 < p ∧ p < 2147483648 := by
  cases d with
  | int p => simp [isP] at h; exact ⟨p, rfl, h.1, h.2⟩
  | _ => cases h
theorem gets_pr {xs : List D} {i : Int} {k : D → Prop} (hx : xs.all isP = true) (h0 : 0 ≤ i) (h1 : i < xs.length) (h : ∀ p : Int, 0 < p → p < 2147483648 → k (.int p)) : gets (atI xs i) k :=
  gets_at h0 h1 fun d hd => by
    obtain ⟨p, rfl, h2, h3⟩ := isP_int (List.all_eq_true.mp hx d hd)
    exact h p h2 h3
theorem mul_bd {x y a b : Int} (h0 : 0 ≤ x) (h1 : x ≤ a) (h2 : 0 ≤ y) (h3 : y ≤ b) : 0 ≤ x * y ∧ x * y ≤ a * b :=
  ⟨Int.mul_nonneg h0 h2, Int.mul_le_mul h1 h3 h2 (by omega)⟩
theorem pow_bd {x : Int} {n : Int} (hn : 0 ≤ n) (hn2 : n ≤ 1000000) (h0 : 0 ≤ x) (h1 : x < 18446744073709551616) : CPow x n := by
  refine ⟨hn, hn2, ?_⟩
  have e : (2 : Nat) ^ 64 = 18446744073709551616 := by decide
  omega
theorem cm {x y : Int} (h0 : 0 ≤ x) (h1 : x < 1267650600228229401496703205376) (h2 : 0 ≤ y) (h3 : y < 1267650600228229401496703205376) : CMulW x y := cmul (lt_pow h0 h1) (lt_pow h2 h3)
def spTake : DSp := fun as pn P => ∃ (p : Pen) (n : Int) (b : Nat), as = [.pen, .val (.int n)] ∧ pn = some p ∧ Bud p (b + 1) ∧ 0 < n ∧ n < 1267650600228229401496703205376 ∧ ∀ i p', 0 ≤ i → i < n → Bud p' b → P (.int i) (some p')
theorem cdiv {x y : Int} (h0 : 0 < y) (h : y < 1267650600228229401496703205376) : CDivW x y := by
  refine ⟨h0, ?_⟩
  have := (Nat.log2_lt (n := y.natAbs) (k := 1000) (by omega)).mpr (lt_pow (by omega) h)
  omega
def seqA : Dk.Arg → Option (List D)
  | .val (.list ds) => some ds
  | .val (.tuple ds) => some ds
  | .bor ds => some ds
  | _ => none
def spOneOf : DSp := fun as pn P => ∃ (p : Pen) (a : Dk.Arg) (ds : List D) (b : Nat), as = [.pen, a] ∧ seqA a = some ds ∧ pn = some p ∧ Bud p (b + 1) ∧ ds ≠ [] ∧ ds.length ≤ 16777216 ∧ ∀ d ∈ ds, ∀ p', Bud p' b → P d (some p')
def spOpen : DSp := fun as pn P => ∃ ns : List Int, as = [.scr ns] ∧ pn = none ∧ ∀ cells, P (penL cells) none
theorem gets_ixN {n : Nat} {i : Int} {k : Nat → Prop} (h0 : 0 ≤ i) (h1 : i < n) (h : k i.toNat) : gets (ixN n i) k := by
  unfold ixN
  rw [if_pos h0, if_pos h1]
  exact h
abbrev Alt := List Int × List Nat
abbrev Memo := List (List Alt)
def needsL (ns : List Nat) : List D := ns.map fun (n : Nat) => PyData.int (n : Int)
def altD (a : Alt) : D := .tuple [.tuple (a.1.map .int), .tuple (needsL a.2)]
def nodeD (n : List Alt) : D := .tuple (n.map altD)
def memoD (m : Memo) : D := .tuple (m.map nodeD)
def Good (m : Memo) : Prop := ∀ (i : Nat) (n : List Alt), m[i]? = some n → n ≠ [] ∧ n.length ≤ 1000 ∧ ∀ a : Alt, a ∈ n → a.2.length ≤ 2 ∧ ∀ x ∈ a.2, x < i
def isPlan (m : Memo) : Nat → Nat → D → Bool
  | f + 1, node, .tuple [.int k, .tuple parts] => match m[node]? with
    | some n => if 0 ≤ k ∧ k < n.length then (match n[k.toNat]? with
      | some a => decide (parts.length = a.2.length) && (List.zipWith (isPlan m f) a.2 parts).all id
      | none => false) else false
    | none => false
  | _, _, _ => false
@[simp] theorem eqOk_int {i j : Int} : eqOk (.int i) (.int j) = true := by
  unfold eqOk
  rw [show SeqAt.shaped (.int i) = true from rfl, show SeqAt.shaped (.int j) = true from rfl]
  rfl
@[simp] theorem eqv_int {i j : Int} : PyData.eqv (.int i) (.int j) = (i == j) := rfl
theorem any_false : ∀ bs : List Bool, anyEq (.bool false) (bs.map .bool) = !bs.all id
  | [] => rfl
  | b :: bs => by
    have := any_false bs
    unfold anyEq at this ⊢
    rw [List.map_cons, List.any_cons, List.all_cons, this]
    cases b <;> rfl
theorem flat_bools (bs : List Bool) : (bs.map PyData.bool).all flatD = true := by
  rw [List.all_eq_true]
  intro d hd
  obtain ⟨b, _, rfl⟩ := List.mem_map.mp hd
  rfl
theorem gets_notin {bs : List Bool} {k : Rs → Prop} (h : k (.val (.bool (bs.all id)))) : gets (inD true (.bool false) (.list (bs.map .bool))) k := by
  have e : inD true (.bool false) (.list (bs.map .bool)) = some (bl (bs.all id)) := by
    show (if flatD (.bool false) = true ∧ (bs.map PyData.bool).all flatD = true then some (bl (!anyEq (.bool false) (bs.map .bool))) else _) = _
    rw [if_pos ⟨rfl, flat_bools bs⟩, any_false, Bool.not_not]
  rw [e]
  exact h
theorem atRi {xs : List D} {i : Int} {d : D} (h0 : 0 ≤ i) (h : xs[i.toNat]? = some d) (k : D → Prop) : gets (atI xs i) k = k d := by rw [Dk.atI_of h0, h]; rfl
def bigN : Nat := 10 ^ 200
mutual
def sm : D → Bool
  | .none => true
  | .bool _ => true
  | .int i => decide (i.natAbs < bigN)
  | .str _ => false
  | .list _ => false
  | .tuple ds => decide (ds.length ≤ 900) && smA ds
  | .dict _ => false
def smA : List D → Bool
  | [] => true
  | d :: ds => sm d && smA ds
end
theorem sm_tuple {ds : List D} : sm (.tuple ds) = (decide (ds.length ≤ 900) && smA ds) := by rw [sm]
theorem sm_tup {ds : List D} : sm (.tuple ds) = true ↔ ds.length ≤ 900 ∧ smA ds = true := by rw [sm_tuple, Bool.and_eq_true, decide_eq_true_eq]
theorem smA_iff : ∀ {ds : List D}, smA ds = true ↔ ∀ d ∈ ds, sm d = true
  | [] => by simp [smA]
  | d :: ds => by
    rw [smA, Bool.and_eq_true, smA_iff]
    simp
theorem wgt_small {i : Int} (h : i.natAbs < 1000000000000) : wgt (.int i) ≤ 13 := by
  rw [wgt]
  exact PyData.shown_int_le h
theorem big {x : Int} (h0 : 0 ≤ x) (h : x < 1000000000000000000000000000000000000000000000000000000000000) : x.natAbs < 2 ^ 1000 := by
  refine Nat.lt_of_lt_of_le (m := 2 ^ 200) ?_ (Nat.pow_le_pow_right (by decide) (by decide))
  have e : (2 : Nat) ^ 200 = 1606938044258990275541962092341162602522202993782792835301376 := by decide
  omega
theorem bud_le {p : Pen} {b c : Nat} (h : Bud p c) (e : b ≤ c) : Bud p b := ⟨h.1, by have := h.2; omega⟩
theorem wgts_map {α : Type} {g : α → D} {c : Nat} : ∀ {xs : List α}, (∀ x ∈ xs, wgt (g x) ≤ c) → wgts (xs.map g) ≤ xs.length * (c + 2)
  | [], _ => by simp [wgts_nil]
  | x :: xs, h => by
    have h1 := h x (by simp)
    have h2 := wgts_map (xs := xs) fun y hy => h y (by simp [hy])
    rw [List.map_cons, wgts_cons, List.length_cons, Nat.succ_mul]
    omega
theorem plA_map {α : Type} {g : α → D} {xs : List α} (h : ∀ x ∈ xs, pl (g x) = true) : plA (xs.map g) = true := plA_iff.mpr fun d hd => by
  obtain ⟨x, hx, rfl⟩ := List.mem_map.mp hd
  exact h x hx
theorem depth_map {α : Type} {g : α → D} {c : Nat} {xs : List α} (h : ∀ x ∈ xs, (g x).depth ≤ c) : PyData.depthAll (xs.map g) ≤ c := depthAll_le.mpr fun d hd => by
  obtain ⟨x, hx, rfl⟩ := List.mem_map.mp hd
  exact h x hx
def costP : Nat → Nat
  | 0 => 0
  | f + 1 => 1 + 2 * costP f
def wP : Nat → Nat
  | 0 => 0
  | f + 1 => 30 + 2 * wP f
structure PlanT (m : Memo) (f node : Nat) (d : D) : Prop where
  sh : ∃ (k : Int) (parts : List D), d = .tuple [.int k, .tuple parts]
  p : sm d = true
  w : wgt d ≤ wP f
  dp : d.depth ≤ 2 * f
  ip : isPlan m f node d = true
theorem take_snocA {α : Type} {xs : List α} {i : Nat} {d : α} (h : xs[i]? = some d) : xs.take (i + 1) = xs.take i ++ [d] := by
  obtain ⟨hi, e⟩ := List.getElem?_eq_some_iff.mp h
  rw [List.take_succ_eq_append_getElem hi, e]
theorem lcW_map {S : Type} [StK S] {α : Type} {c : Sc} {items : List D} {g : (GW S)} {te : (OW S)} {vs : List Nat} {Q : List D → (En S) → Prop} {ρ0 : (En S)} {ts : List α} (e f : α → D) (hi : items = ts.map e) (hc : c.items ρ0 = some items)
    (step : ∀ t ∈ ts, ∀ N : D → (En S) → Prop, N (f t) ρ0 → g (e t) ρ0 fun ρ1 => te ρ1 fun k ρ3 => gets k.valD fun y => N y ⟨wipeD ρ3.sl vs, ρ3.pn⟩)
    (q : Q (ts.map f) ρ0) : lcW c items g dYes te vs Q items [] ρ0 := by
  refine lcW_inv (fun i acc ρ => ρ = ρ0 ∧ acc = (ts.take i).map f) ?_ ?_ ?_ ⟨rfl, rfl⟩
  · rintro i acc ρ ⟨rfl, _⟩
    exact hc
  · rintro i d acc ρ h ⟨rfl, rfl⟩ N hN
    rw [hi, List.getElem?_map] at h
    obtain ⟨t, h1, rfl⟩ := Option.map_eq_some_iff.mp h
    have := step t (List.mem_of_getElem? h1) (fun y ρ' => N ((ts.take i).map f ++ [y]) ρ') (hN _ _ ⟨rfl, by rw [take_snocA h1, List.map_append]; rfl⟩)
    exact this
  · rintro acc ρ ⟨rfl, rfl⟩
    rw [hi, List.length_map, List.take_length]
    exact q
theorem rds_pen {sl : List Sl} {p q : Option Pen} : ∀ ks : List Tk, rds (⟨sl, p⟩ : En) ks = rds (⟨sl, q⟩ : En) ks
  | [] => rfl
  | k :: ks => by
    rw [rds_cons, rds_cons, rds_pen ks]
    cases k <;> rfl
theorem items_pen {c : Sc} {sl : List Sl} {p q : Option Pen} : c.items (⟨sl, p⟩ : En) = c.items (⟨sl, q⟩ : En) := by
  unfold Sc.items
  rw [rds_pen]
theorem lcW_draw {c : Sc} {items : List D} {g : GW} {te : OW} {vs : List Nat} {Q : List D → En → Prop} {sl : List Sl} {p : Pen} (R : D → Prop) (n b cst : Nat) (hn : items.length = n) (hc : c.items (⟨sl, none⟩ : En) = some items) (hb : Bud p (b + cst * n))
    (step : ∀ (i : Nat) (d : D), items[i]? = some d → ∀ (q : Pen) (b' : Nat), Bud q (b' + cst) → b ≤ b' → ∀ N : D → En → Prop, (∀ y q', R y → Bud q' b' → N y ⟨sl, some q'⟩) → g d ⟨sl, some q⟩ fun ρ1 => te ρ1 fun k ρ3 => gets k.valD fun y => N y ⟨wipeD ρ3.sl vs, ρ3.pn⟩)
    (fin : ∀ acc q, acc.length = n → (∀ d ∈ acc, R d) → Bud q b → Q acc ⟨sl, some q⟩) : lcW c items g dYes te vs Q items [] ⟨sl, some p⟩ := by
  refine lcW_inv (fun i acc ρ => ∃ q : Pen, ρ = ⟨sl, some q⟩ ∧ acc.length = i ∧ i ≤ n ∧ (∀ d ∈ acc, R d) ∧ Bud q (b + cst * (n - i))) ?_ ?_ ?_ ⟨p, rfl, rfl, Nat.zero_le _, by simp, hb⟩
  · rintro i acc ρ ⟨q, rfl, _⟩
    rw [← hc]
    exact items_pen
  · rintro i d acc ρ h ⟨q, rfl, hl, hin, hR, hq⟩ N hN
    have hlt : i < n := by rw [← hn]; exact (List.getElem?_eq_some_iff.mp h).1
    have e : b + cst * (n - i) = b + cst * (n - (i + 1)) + cst := by
      rw [show n - i = (n - (i + 1)) + 1 by omega, Nat.mul_succ]; omega
    have := step i d h q (b + cst * (n - (i + 1))) (by rw [← e]; exact hq) (by omega) (fun y ρ' => N (acc ++ [y]) ρ') (fun y q' hy hq' => hN _ _ ⟨q', rfl, by simp [hl], hlt, fun z hz => by
      rcases List.mem_append.mp hz with hz | hz
      · exact hR z hz
      · rw [List.mem_singleton.mp hz]; exact hy, hq'⟩)
    exact this
  · rintro acc ρ ⟨q, rfl, hl, _, hR, hq⟩
    rw [hn] at hl hq
    exact fin acc q hl hR (bud_le hq (by omega))
section
variable {α : Type} {g : List α → List Alt → α}
def dp (g : List α → List Alt → α) (m : Memo) : List α := m.foldl (fun acc n => acc ++ [g acc n]) []
theorem dp_snoc (m : Memo) (n : List Alt) : dp g (m ++ [n]) = dp g m ++ [g (dp g m) n] := by simp [dp, List.foldl_append]
theorem dp_pre : ∀ (m : Memo) (acc : List α), ∃ r, m.foldl (fun acc n => acc ++ [g acc n]) acc = acc ++ r ∧ r.length = m.length
  | [], acc => ⟨[], by simp, rfl⟩
  | n :: m, acc => by
    obtain ⟨r, h1, h2⟩ := dp_pre m (acc ++ [g acc n])
    exact ⟨g acc n :: r, by rw [List.foldl_cons, h1]; simp, by simp [h2]⟩
theorem dp_len (m : Memo) : (dp g m).length = m.length := by
  obtain ⟨r, h1, h2⟩ := dp_pre (g := g) m []
  unfold dp
  rw [h1]
  simpa using h2
theorem dp_take (m : Memo) (i : Nat) : (dp g m).take i = dp g (m.take i) := by
  by_cases hi : i ≤ m.length
  · obtain ⟨r, h1, h2⟩ := dp_pre (g := g) (m.drop i) (dp g (m.take i))
    have e : dp g m = dp g (m.take i) ++ r := by
      rw [← h1]
      unfold dp
      rw [← List.foldl_append, List.take_append_drop]
    rw [e, List.take_append_of_le_length (by rw [dp_len, List.length_take]; omega), List.take_of_length_le (by rw [dp_len, List.length_take]; omega)]
  · rw [List.take_of_length_le (by rw [dp_len]; omega), List.take_of_length_le (by omega)]
def Loc (g : List α → List Alt → α) : Prop := ∀ (acc bcc : List α) (n : List Alt), (∀ a ∈ n, ∀ x ∈ a.2, x < acc.length) → g (acc ++ bcc) n = g acc n
theorem Loc.take (L : Loc g) {acc : List α} {n : List Alt} {i : Nat} (hi : i ≤ acc.length) (h : ∀ a ∈ n, ∀ x ∈ a.2, x < i) : g (acc.take i) n = g acc n := by
  have := L (acc.take i) (acc.drop i) n (fun a ha x hx => by have := h a ha x hx; rw [List.length_take]; omega)
  rw [List.take_append_drop] at this
  exact this.symm
theorem dp_at (m : Memo) {i : Nat} {n : List Alt} (h : m[i]? = some n) : (dp g m)[i]? = some (g (dp g (m.take i)) n) := by
  have hi := (List.getElem?_eq_some_iff.mp h).1
  have e : (dp g m).take (i + 1) = dp g (m.take i) ++ [g (dp g (m.take i)) n] := by
    rw [dp_take, take_snocA h, dp_snoc]
  have h2 : ((dp g m).take (i + 1))[i]? = (dp g m)[i]? := by rw [List.getElem?_take]; simp
  rw [← h2, e, List.getElem?_append_right (by rw [dp_len, List.length_take]; omega), dp_len, List.length_take]
  simp [show i - min i m.length = 0 by omega]
theorem dp_get (L : Loc g) {m : Memo} {i : Nat} {n : List Alt} (h : m[i]? = some n) (hn : ∀ a ∈ n, ∀ x ∈ a.2, x < i) : (dp g m)[i]? = some (g (dp g m) n) := by
  have hi := (List.getElem?_eq_some_iff.mp h).1
  rw [dp_at m h, ← dp_take, L.take (by rw [dp_len]; omega) hn]
theorem getD_app {acc bcc : List α} {x : Nat} {d : α} (h : x < acc.length) : (acc ++ bcc).getD x d = acc.getD x d := by
  rw [List.getD_eq_getElem?_getD, List.getD_eq_getElem?_getD, List.getElem?_append_left h]
theorem gI_of {l : List Int} {i : Nat} {y : Int} (h : l[i]? = some y) : l.getD i 0 = y := by
  rw [List.getD_eq_getElem?_getD, h]; rfl
theorem getD_of {l : List α} {i : Nat} {d y : α} (h : l[i]? = some y) : l.getD i d = y := by
  rw [List.getD_eq_getElem?_getD, h]; rfl
end
def gI (cs : List Int) (x : Nat) : Int := cs.getD x 0
def pN (cs : List Int) (ns : List Nat) : Int := (ns.map (gI cs)).foldl (· * ·) 1
def sN (cs : List Int) (ns : List Nat) : Int := (ns.map (gI cs)).sum
def cntN (cs : List Int) (n : List Alt) : Int := (n.map fun a => pN cs a.2).sum
def partsN (ps : List Int) (n : List Alt) : Int := 1 + (maxI (n.map fun a => sN ps a.2)).getD 0
theorem gI_app {acc bcc : List Int} {x : Nat} (h : x < acc.length) : gI (acc ++ bcc) x = gI acc x := getD_app h
theorem pN_app {acc bcc : List Int} {ns : List Nat} (h : ∀ x ∈ ns, x < acc.length) : pN (acc ++ bcc) ns = pN acc ns := by
  unfold pN
  rw [List.map_congr_left fun x hx => gI_app (h x hx)]
theorem sN_app {acc bcc : List Int} {ns : List Nat} (h : ∀ x ∈ ns, x < acc.length) : sN (acc ++ bcc) ns = sN acc ns := by
  unfold sN
  rw [List.map_congr_left fun x hx => gI_app (h x hx)]
theorem cnt_loc : Loc cntN := fun acc bcc n h => by
  unfold cntN
  rw [List.map_congr_left fun a ha => pN_app (h a ha)]
theorem parts_loc : Loc partsN := fun acc bcc n h => by
  unfold partsN
  rw [List.map_congr_left fun a ha => sN_app (h a ha)]
abbrev cnts (m : Memo) : List Int := dp cntN m
abbrev prts (m : Memo) : List Int := dp partsN m
def CntB (m : Memo) : Prop := ∀ c ∈ cnts m, 0 ≤ c ∧ c ≤ 10000000000000000000000000000000000000000
theorem CntB.gI {m : Memo} (h : CntB m) (x : Nat) : 0 ≤ gI (cnts m) x ∧ gI (cnts m) x ≤ 10000000000000000000000000000000000000000 := by
  unfold Dk.gI
  rw [List.getD_eq_getElem?_getD]
  cases e : (cnts m)[x]? with
  | none => exact ⟨by decide, by decide⟩
  | some y => exact h y (List.mem_of_getElem? e)
def FineA (size i : Nat) (a : Alt) : Prop := (a.1.length = size ∧ ∀ x ∈ a.1, 0 ≤ x ∧ x ≤ 1000000) ∧ a.2.length ≤ 2 ∧ ∀ x ∈ a.2, x < i
theorem FineA.mono {size i j : Nat} {a : Alt} (h : FineA size i a) (e : i ≤ j) : FineA size j a := ⟨h.1, h.2.1, fun x hx => Nat.lt_of_lt_of_le (h.2.2 x hx) e⟩
structure Fine (size most : Nat) (B : Int) (m : Memo) : Prop where
  node : ∀ (i : Nat) (n : List Alt), m[i]? = some n → n ≠ [] ∧ n.length ≤ most ∧ ∀ a : Alt, a ∈ n → FineA size i a
  cnt : ∀ c ∈ cnts m, 1 ≤ c ∧ c ≤ B
  prt : ∀ c ∈ prts m, 1 ≤ c ∧ c ≤ 31
theorem Fine.nil {size most : Nat} {B : Int} : Fine size most B [] := ⟨fun i n hn => by simp at hn, fun c hc => by simp [dp] at hc, fun c hc => by simp [dp] at hc⟩
theorem Fine.snoc {size most : Nat} {B : Int} {m : Memo} {n : List Alt} (h : Fine size most B m) (h0 : n ≠ []) (h1 : n.length ≤ most) (h2 : ∀ a ∈ n, FineA size m.length a) (hc : 1 ≤ cntN (cnts m) n ∧ cntN (cnts m) n ≤ B) (hp : 1 ≤ partsN (prts m) n ∧ partsN (prts m) n ≤ 31) : Fine size most B (m ++ [n]) := by
  refine ⟨fun i x hx => ?_, fun c hc' => ?_, fun c hc' => ?_⟩
  · by_cases hi : i < m.length
    · rw [List.getElem?_append_left hi] at hx
      exact h.node i x hx
    · rw [List.getElem?_append_right (by omega)] at hx
      by_cases e : i = m.length
      · subst e
        simp at hx
        subst hx
        exact ⟨h0, h1, h2⟩
      · rw [List.getElem?_eq_none (by simp; omega)] at hx
        cases hx
  · rw [show cnts (m ++ [n]) = cnts m ++ [cntN (cnts m) n] from dp_snoc m n] at hc'
    rcases List.mem_append.mp hc' with hc' | hc'
    · exact h.cnt c hc'
    · rw [List.mem_singleton.mp hc']; exact hc
  · rw [show prts (m ++ [n]) = prts m ++ [partsN (prts m) n] from dp_snoc m n] at hc'
    rcases List.mem_append.mp hc' with hc' | hc'
    · exact h.prt c hc'
    · rw [List.mem_singleton.mp hc']; exact hp
end Dk
namespace Dk
open PySem PySem.Spec PyProof.Rows L2
def cod (x : Str) : List Nat := x.cps.toList
theorem cod_app (a b : Str) : cod (a ++ b) = cod a ++ cod b := by
  unfold cod
  rw [show (a ++ b).cps = a.cps ++ b.cps from rfl, Array.toList_append]
def Sig (c : Nat) : Prop := c = 45 ∨ (48 ≤ c ∧ c ≤ 57)
theorem cod_int (i : Int) : cod (PyData.shown (.int i)) = (toString i).toList.map Char.toNat := by
  exact PyProof.Rows.signs_ofString (toString i)
theorem char_sig {c : Char} (h : c.isDigit = true) : Sig c.toNat := by
  simp [Char.isDigit] at h
  right
  have h1 : (48 : UInt32) ≤ c.val := h.1
  have h2 : c.val ≤ (57 : UInt32) := h.2
  exact ⟨by have := UInt32.le_iff_toNat_le.mp h1; simpa using this, by have := UInt32.le_iff_toNat_le.mp h2; simpa using this⟩
theorem nat_sig (n : Nat) : ∀ c ∈ n.repr.toList, Sig c.toNat := fun c hc => by
  have : c ∈ Nat.toDigits 10 n := by simpa [Nat.repr] using hc
  exact char_sig (Nat.isDigit_of_mem_toDigits (by decide) (by decide) this)
theorem nat_ne (n : Nat) : n.repr.toList ≠ [] := by
  have : Nat.toDigits 10 n ≠ [] := Nat.toDigits_ne_nil
  simpa [Nat.repr] using this
theorem int_sig (i : Int) : (∀ c ∈ cod (PyData.shown (.int i)), Sig c) ∧ cod (PyData.shown (.int i)) ≠ [] := by
  rw [cod_int]
  cases i with
  | ofNat n =>
    have e : toString (Int.ofNat n) = n.repr := rfl
    rw [e]
    refine ⟨fun c hc => ?_, by simpa using nat_ne n⟩
    obtain ⟨d, hd, rfl⟩ := List.mem_map.mp hc
    exact nat_sig n d hd
  | negSucc n =>
    have e : toString (Int.negSucc n) = "-" ++ (n + 1).repr := rfl
    rw [e]
    refine ⟨fun c hc => ?_, by simp⟩
    obtain ⟨d, hd, rfl⟩ := List.mem_map.mp hc
    rw [String.toList_append, List.mem_append] at hd
    rcases hd with hd | hd
    · have : d = '-' := by simpa using hd
      subst this
      exact .inl rfl
    · exact nat_sig _ d hd
def kd : D → Nat → Prop
  | .none, c => c = 78
  | .bool true, c => c = 84
  | .bool false, c => c = 70
  | .int _, c => Sig c
  | .str _, c => c = 39 ∨ c = 34
  | .list _, c => c = 91
  | .tuple _, c => c = 40
  | .dict _, c => c = 123
theorem fold_pre (f : Nat → Array Nat) : ∀ (l : List Nat) (acc : Array Nat), ∃ q, (l.foldl (fun out c => out ++ f c) acc).toList = acc.toList ++ q
  | [], acc => ⟨[], by simp⟩
  | c :: l, acc => by
    obtain ⟨q, h⟩ := fold_pre f l (acc ++ f c)
    exact ⟨(f c).toList ++ q, by rw [List.foldl_cons, h]; simp⟩
theorem cod_none : cod (PyData.shown .none) = [78, 111, 110, 101] := by show cod (Str.ofString "None") = _; decide
theorem cod_true : cod (PyData.shown (.bool true)) = [84, 114, 117, 101] := by show cod (Str.ofString "True") = _; decide
theorem cod_false : cod (PyData.shown (.bool false)) = [70, 97, 108, 115, 101] := by show cod (Str.ofString "False") = _; decide
def tailT : List Str → List Nat
  | [] => []
  | t :: ts => 44 :: 32 :: (cod t ++ tailT ts)
def bodyT : List Str → List Nat
  | [] => []
  | t :: ts => cod t ++ tailT ts
theorem cod_join : ∀ ts : List Str, cod (Str.join ", " ts) = bodyT ts
  | [] => rfl
  | [x] => by show cod x = cod x ++ []; simp
  | x :: y :: r => by
    have ih := cod_join (y :: r)
    show cod (x ++ ", " ++ Str.join ", " (y :: r)) = _
    rw [cod_app, cod_app, ih, show cod ((", " : String) : Str) = [44, 32] by decide]
    simp [bodyT, tailT]
theorem cod_from : ∀ (ts : List Str) (k : Nat) (acc : Str), cod (textFrom k acc ts) = cod acc ++ (if k = 0 then bodyT ts else tailT ts)
  | [], k, acc => by
    show cod acc = _
    split <;> simp [bodyT, tailT]
  | t :: ts, k, acc => by
    show cod (textFrom (k + 1) (acc ++ (if k > 0 then ", " else "" : String) ++ t) ts) = _
    rw [cod_from ts, if_neg (Nat.succ_ne_zero k), cod_app, cod_app]
    by_cases hk : k = 0
    · subst hk
      simp [bodyT, show cod (("" : String) : Str) = [] by decide]
    · rw [if_pos (show k > 0 by omega), if_neg hk, show cod ((", " : String) : Str) = [44, 32] by decide]
      simp [tailT]
theorem cod_list (ds : List D) : cod (PyData.shown (.list ds)) = 91 :: (bodyT (PyData.shownAll ds) ++ [93]) := by
  show cod (listText (PyData.shownAll ds)) = _
  unfold listText
  rw [cod_app, cod_from, if_pos rfl, show cod (("[" : String) : Str) = [91] by decide, show cod (("]" : String) : Str) = [93] by decide]
  simp
theorem cod_tuple (ds : List D) : cod (PyData.shown (.tuple ds)) = 40 :: (bodyT (PyData.shownAll ds) ++ (if ds.length = 1 then [44, 41] else [41])) := by
  show cod (tupleText (PyData.shownAll ds)) = _
  have hl : (PyData.shownAll ds).length = ds.length := by
    induction ds with
    | nil => rfl
    | cons d ds ih => simp [PyData.shownAll, ih]
  unfold tupleText
  rw [cod_app, cod_app, cod_join, hl, show cod (("(" : Str)) = [40] by decide]
  by_cases h : ds.length = 1
  · rw [if_pos (by simpa using h), if_pos h, show cod ((",)" : String) : Str) = [44, 41] by decide]
    simp
  · rw [if_neg (by simpa using h), if_neg h, show cod ((")" : String) : Str) = [41] by decide]
    simp
theorem hdc (d : D) : ∃ c q, cod d.shown = c :: q ∧ kd d c := by
  cases d with
  | none => exact ⟨_, _, cod_none, rfl⟩
  | bool b => cases b <;> first | exact ⟨_, _, cod_true, rfl⟩ | exact ⟨_, _, cod_false, rfl⟩
  | int i =>
    obtain ⟨h1, h2⟩ := int_sig i
    cases e : cod (PyData.shown (.int i)) with
    | nil => exact absurd e h2
    | cons c q => exact ⟨c, q, rfl, h1 c (by rw [e]; simp)⟩
  | str x =>
    obtain ⟨q, h⟩ := fold_pre (fun c => (Builtin.Str.reprChar (reprQuote x) c).toArray) x.cps.toList #[reprQuote x]
    have e : cod (PyData.shown (.str x)) = reprQuote x :: (q ++ [reprQuote x]) := by
      show ((x.cps.foldl (fun out c => out ++ (Builtin.Str.reprChar (reprQuote x) c).toArray) #[reprQuote x]).push (reprQuote x)).toList = _
      rw [Array.toList_push, ← Array.foldl_toList, h]
      simp
    exact ⟨_, _, e, by unfold reprQuote; split <;> simp [kd]⟩
  | list ds => exact ⟨_, _, cod_list ds, rfl⟩
  | tuple ds => exact ⟨_, _, cod_tuple ds, rfl⟩
  | dict kvs =>
    refine ⟨123, bodyT (PyData.shownKv kvs) ++ [125], ?_, rfl⟩
    show cod (dictText (PyData.shownKv kvs)) = _
    unfold dictText
    rw [cod_app, cod_app, cod_join, show cod (("{" : Str)) = [123] by decide, show cod (("}" : String) : Str) = [125] by decide]
    simp
end Dk
namespace Dk
open PySem PySem.Spec PyProof.Rows L2
def tupI (ns : List Int) : D := .tuple (ns.map .int)
def dotI (xs ys : List Int) : Int := ((xs.zip ys).map fun p => p.1 * p.2).sum
def ownC (cs : List (List Int)) (ams : List Int) : List Int := cs.map fun c => dotI c ams
theorem zipF_ok {st c1 c2 : Bool} {d e : D} {xs ys : List D} (h1 : seqK c1 d = some xs) (h2 : seqK c2 e = some ys) (h : st = true → xs.length = ys.length) : zipF st c1 c2 [d, e] = some (pairL xs ys) := by
  show ((seqK c1 d).bind fun xs => (seqK c2 e).bind fun ys => if st = true ∧ xs.length ≠ ys.length then none else some (pairL xs ys)) = _
  rw [h1, h2]
  cases st with
  | false => rfl
  | true => simp [h rfl]
theorem items2 {S : Type} [StK S] {k1 k2 : Tk} {f : List D → Option (List D)} {sl : En S} {d e : D} {items : List D} (h1 : k1.rd sl = some d) (h2 : k2.rd sl = some e) (h : f [d, e] = some items) : Sc.items ⟨[k1, k2], f⟩ sl = some items := by
  unfold Sc.items rds
  rw [h1]
  show ((some d).bind fun d => (rds sl [k2]).bind fun ds => some (d :: ds)).bind f = _
  rw [rds, h2]
  exact h
theorem items1 {S : Type} [StK S] {k1 : Tk} {f : List D → Option (List D)} {sl : En S} {d : D} {items : List D} (h1 : k1.rd sl = some d) (h : f [d] = some items) : Sc.items ⟨[k1], f⟩ sl = some items := by
  unfold Sc.items rds
  rw [h1]
  exact h
section
variable {S : Type} [StK S] {α : Type} {c : Sc} {items : List D} {g : (GW S)} {te : (OW S)} {vs : List Nat} {Q : List D → (En S) → Prop} {ρ0 : (En S)} {ts : List α}
theorem lcW_mapI (e : α → D) (h : α → Int) (hi : items = ts.map e) (hc : c.items ρ0 = some items)
    (step : ∀ t ∈ ts, ∀ N : D → (En S) → Prop, N (.int (h t)) ρ0 → g (e t) ρ0 fun ρ1 => te ρ1 fun k ρ3 => gets k.valD fun y => N y ⟨wipeD ρ3.sl vs, ρ3.pn⟩)
    (q : Q ((ts.map h).map .int) ρ0) : lcW c items g dYes te vs Q items [] ρ0 :=
  lcW_map e (fun t => .int (h t)) hi hc step (by rw [List.map_map] at q; exact q)
theorem lcW_mapB (e : α → D) (h : α → Bool) (hi : items = ts.map e) (hc : c.items ρ0 = some items)
    (step : ∀ t ∈ ts, ∀ N : D → (En S) → Prop, N (.bool (h t)) ρ0 → g (e t) ρ0 fun ρ1 => te ρ1 fun k ρ3 => gets k.valD fun y => N y ⟨wipeD ρ3.sl vs, ρ3.pn⟩)
    (q : Q ((ts.map h).map .bool) ρ0) : lcW c items g dYes te vs Q items [] ρ0 :=
  lcW_map e (fun t => .bool (h t)) hi hc step (by rw [List.map_map] at q; exact q)
end
theorem dot_comm : ∀ xs ys : List Int, dotI xs ys = dotI ys xs
  | [], [] => rfl
  | [], _ :: _ => rfl
  | _ :: _, [] => rfl
  | x :: xs, y :: ys => by
    have h := dot_comm xs ys
    unfold dotI at h ⊢
    rw [List.zip_cons_cons, List.zip_cons_cons, List.map_cons, List.map_cons, List.sum_cons, List.sum_cons, h, Int.mul_comm]
def toI : D → Int
  | .int i => i
  | _ => 0
def isIntD : D → Bool
  | .int _ => true
  | _ => false
theorem ints_toI : ∀ {ds : List D}, ds.all isIntD = true → ints? ds = some (ds.map toI)
  | [], _ => rfl
  | d :: ds, h => by
    rw [List.all_cons, Bool.and_eq_true] at h
    cases d with
    | int i => rw [ints?, ints_toI h.2]; rfl
    | _ => cases h.1
theorem isInt_map {ds : List D} (h : ds.all isIntD = true) : ds = (ds.map toI).map .int := (ints?_eq (ints_toI h))
structure Cor (size : Nat) (cs : List (List Int)) : Prop where
  n0 : 1 ≤ cs.length
  n1 : cs.length ≤ 4
  c : ∀ c ∈ cs, c.length = size ∧ ∀ x ∈ c, 0 ≤ x ∧ x ≤ 1000
structure Mix (n : Nat) (mix : List Int) : Prop where
  len : mix.length = n
  x : ∀ x ∈ mix, 0 ≤ x ∧ x ≤ 1000000 * 10 ^ 90
  pos : 0 < mix.sum
theorem dot_bd {A B : Int} (hA : 0 ≤ A) (hB : 0 ≤ B) : ∀ {xs ys : List Int}, (∀ x ∈ xs, 0 ≤ x ∧ x ≤ A) → (∀ y ∈ ys, 0 ≤ y ∧ y ≤ B) → 0 ≤ dotI xs ys ∧ dotI xs ys ≤ xs.length * (A * B)
  | [], ys, _, _ => by simp [dotI]
  | x :: xs, [], _, _ => by
    have := Int.mul_nonneg hA hB
    have h2 : 0 ≤ ((x :: xs).length : Int) * (A * B) := Int.mul_nonneg (by omega) this
    simpa [dotI] using h2
  | x :: xs, y :: ys, hx, hy => by
    obtain ⟨h1, h2⟩ := dot_bd hA hB (xs := xs) (ys := ys) (fun z hz => hx z (by simp [hz])) (fun z hz => hy z (by simp [hz]))
    obtain ⟨x0, x1⟩ := hx x (by simp)
    obtain ⟨y0, y1⟩ := hy y (by simp)
    obtain ⟨m0, m1⟩ := mul_bd x0 x1 y0 y1
    have e : dotI (x :: xs) (y :: ys) = x * y + dotI xs ys := by simp [dotI]
    have e2 : ((x :: xs).length : Int) * (A * B) = (xs.length : Int) * (A * B) + A * B := by
      rw [List.length_cons, Int.natCast_add, Int.add_mul]
      simp
    rw [e, e2]
    omega
def waysL (cs : List (List Int)) (mix nums : List Int) (n : List Alt) : List Int := n.map fun a => dotI (ownC cs a.1) mix + sN nums a.2
def leastW (cs : List (List Int)) (mix nums : List Int) (n : List Alt) : Int := (minI (waysL cs mix nums n)).getD 0
theorem ways_app {cs : List (List Int)} {mix acc bcc : List Int} {n : List Alt} (h : ∀ a ∈ n, ∀ x ∈ a.2, x < acc.length) : waysL cs mix (acc ++ bcc) n = waysL cs mix acc n :=
  List.map_congr_left fun a ha => by rw [sN_app (h a ha)]
theorem least_loc {cs : List (List Int)} {mix : List Int} : Loc (leastW cs mix) := fun acc bcc n h => by unfold leastW; rw [ways_app h]
abbrev numbersL (cs : List (List Int)) (mix : List Int) (m : Memo) : List Int := dp (leastW cs mix) m
structure CostOk (m : Memo) (cs : List (List Int)) (mix : List Int) (size : Nat) : Prop where
  am : ∀ n ∈ m, ∀ a ∈ n, a.1.length = size ∧ ∀ x ∈ a.1, 0 ≤ x ∧ x ≤ 1000000
  sz : size ≤ 100
  co : ∀ c ∈ cs, c.length = size ∧ ∀ x ∈ c, 0 ≤ x ∧ x ≤ 1000
  ml : mix.length = cs.length
  mx : ∀ x ∈ mix, x.natAbs ≤ 2 ^ 4000
theorem cm_small {x y : Int} (hx : x.natAbs < 10 ^ 201) (hy : y.natAbs < 10 ^ 201) : CMulW x y := by
  have e : (10 : Nat) ^ 201 ≤ 2 ^ 1000 := by decide +kernel
  exact cmul (Nat.lt_of_lt_of_le hx e) (Nat.lt_of_lt_of_le hy e)
theorem lt201 {x : Int} (h0 : 0 ≤ x) (h : x ≤ 1000000000000000000000000000000) : x.natAbs < 10 ^ 201 := Nat.lt_of_le_of_lt (m := 1000000000000000000000000000000) (by omega) (by decide +kernel)
theorem CostOk.own {m : Memo} {cs : List (List Int)} {mix : List Int} {size : Nat} (K : CostOk m cs mix size) {n : List Alt} {a : Alt} (hn : n ∈ m) (ha : a ∈ n) : ∀ c ∈ cs, c.length = a.1.length ∧ ∀ p ∈ c.zip a.1, CMulW p.1 p.2 := fun c hc => by
  obtain ⟨h1, h2⟩ := K.am n hn a ha
  obtain ⟨h3, h4⟩ := K.co c hc
  refine ⟨by omega, fun p hp => ?_⟩
  obtain ⟨q1, q2⟩ := List.of_mem_zip hp
  have := h4 _ q1
  have := h2 _ q2
  exact cm_small (lt201 (by omega) (by omega)) (lt201 (by omega) (by omega))
theorem CostOk.at {m : Memo} {cs : List (List Int)} {mix : List Int} {size : Nat} (K : CostOk m cs mix size) {n : List Alt} {a : Alt} (hn : n ∈ m) (ha : a ∈ n) : (ownC cs a.1).length = mix.length ∧ ∀ p ∈ (ownC cs a.1).zip mix, CMulW p.1 p.2 := by
  refine ⟨by rw [K.ml]; simp [ownC], fun p hp => ?_⟩
  obtain ⟨q1, q2⟩ := List.of_mem_zip hp
  obtain ⟨c, hc, e⟩ := List.mem_map.mp q1
  obtain ⟨h1, h2⟩ := K.am n hn a ha
  obtain ⟨h3, h4⟩ := K.co c hc
  have hb := dot_bd (A := 1000) (B := 1000000) (by decide) (by decide) h4 h2
  have := K.sz
  have hx := K.mx _ q2
  rw [← e]
  have h5 : (dotI c a.1).natAbs < 2 ^ 1000 := Nat.lt_of_lt_of_le (lt201 hb.1 (by omega)) (by decide +kernel)
  exact wide_mul (a := 1000) (b := 4001) h5 (Nat.lt_of_le_of_lt hx (by decide +kernel)) (by decide) (by decide) (by decide)
end Dk
namespace Dk
open PySem PySem.Spec PyProof.Rows L2
theorem alt_ok {size i : Nat} {a : Alt} (hs : size ≤ 4) (hi : i ≤ 1000) (h : FineA size i a) : pl (altD a) = true ∧ wgt (altD a) ≤ 110 ∧ (altD a).depth ≤ 2 := by
  obtain ⟨⟨h1, h2⟩, h3, h4⟩ := h
  have p1 : plA (a.1.map PyData.int) = true := plA_map fun x hx => pl_int (by have := h2 x hx; omega)
  have p2 : plA (needsL a.2) = true := plA_map fun x hx => pl_int (by have := h4 x hx; omega)
  have w1 := wgts_map (g := PyData.int) (c := 13) (xs := a.1) fun x hx => wgt_small (by have := h2 x hx; omega)
  have w2 := wgts_map (g := fun n : Nat => PyData.int (n : Int)) (c := 13) (xs := a.2) fun x hx => wgt_small (by have := h4 x hx; omega)
  have w2 : wgts (needsL a.2) ≤ a.2.length * (13 + 2) := w2
  have d1 : PyData.depthAll (a.1.map PyData.int) ≤ 0 := depth_map fun _ _ => Nat.le_refl _
  have d2 : PyData.depthAll (needsL a.2) ≤ 0 := depth_map (g := fun n : Nat => PyData.int (n : Int)) fun _ _ => Nat.le_refl _
  unfold altD
  refine ⟨?_, ?_, ?_⟩
  · rw [pl_tuple, plA, plA, plA, pl_tuple, pl_tuple, p1, p2]; rfl
  · rw [wgt_tuple, wgts_cons, wgts_cons, wgts_nil, wgt_tuple, wgt_tuple]; omega
  · rw [depth_tuple, PyData.depthAll, PyData.depthAll, PyData.depthAll, depth_tuple, depth_tuple]; omega
abbrev VwA (d : D) : Prop := Vw 4000000 60 d
theorem VwA.repr {d : D} (h : VwA d) : reprOk d := Vw.repr h (by omega) (by omega)
theorem depth_ints {ns : List Int} : PyData.depthAll (ns.map PyData.int) ≤ 0 := depth_map fun _ _ => Nat.le_refl _
theorem depth_tupI {ns : List Int} : (tupI ns).depth ≤ 1 := by
  unfold tupI
  rw [depth_tuple]
  have := depth_ints (ns := ns)
  omega
theorem minI_some {xs : List Int} (h : xs ≠ []) : ∃ z, minI xs = some z := by
  cases xs with
  | nil => exact absurd rfl h
  | cons a r => exact ⟨_, rfl⟩
theorem leastW_mem {cs : List (List Int)} {mix nums : List Int} {n : List Alt} (h : n ≠ []) : ∃ a ∈ n, leastW cs mix nums n = dotI (ownC cs a.1) mix + sN nums a.2 := by
  obtain ⟨z, hz⟩ := minI_some (xs := waysL cs mix nums n) (by simpa [waysL] using h)
  obtain ⟨a, ha, e⟩ := List.mem_map.mp (minI_spec hz).1
  exact ⟨a, ha, by unfold leastW; rw [hz]; exact e.symm⟩
end Dk
namespace Dk
open PySem PySem.Spec PyProof.Rows L2
variable {S : Type} [StK S]
section
variable {X : Cx} {e a b : Expr} {t u : (OW S)} {te : (DW S)} {pos p1 : Pos} {k : Nat}
def isLst : Option D → Bool
  | some (.list _) => true
  | _ => false
theorem isLst_some {o : Option D} (h : isLst o = true) : ∃ ds, o = some (.list ds) := by
  unfold isLst at h
  split at h
  · exact ⟨_, rfl⟩
  · cases h
def idxD : D → D → Option Rs
  | .list ds, d => if (SeqAt.shaped (.list ds) && SeqAt.shaped d) = true then (ds.findIdx? fun z => PyData.eqv z d).map fun j => ri (j : Nat) else none
  | _, _ => none
def dIdx (t u : (OW S)) : (DW S) := fun ρ P => t ρ fun k1 ρ1 => isLst (k1.rd ρ1) = true ∧ u ρ1 fun k2 ρ2 => gets (k1.rd ρ2) fun d1 => gets (k2.rd ρ2) fun d2 => gets (idxD d1 d2) fun r => P r ρ2
theorem findIdx_first {α : Type} {p : α → Bool} : ∀ {xs : List α} {j : Nat}, xs.findIdx? p = some j → ∃ z, xs[j]? = some z ∧ p z = true ∧ ∀ (m : Nat) (y : α), m < j → xs[m]? = some y → p y = false
  | [], j, h => by simp at h
  | x :: xs, j, h => by
    rw [List.findIdx?_cons] at h
    by_cases hp : p x = true
    · rw [if_pos hp] at h
      cases h
      exact ⟨x, rfl, hp, fun m y hm => by omega⟩
    · rw [if_neg hp] at h
      obtain ⟨i, h1, rfl⟩ := Option.map_eq_some_iff.mp h
      obtain ⟨z, h2, h3, h4⟩ := findIdx_first h1
      refine ⟨z, by simpa using h2, h3, fun m y hm hy => ?_⟩
      cases m with
      | zero => simp at hy; subst hy; simpa using hp
      | succ m => exact h4 m y (by omega) (by simpa using hy)
end
@[simp↓] theorem z_dIdx {s0 : Sl} {l0 : List Sl} {pn : S} {ta tb : (OW S)} {P : Rs → (En S) → Prop} : dIdx ta tb ⟨s0 :: l0, pn⟩ P = ta ⟨s0 :: l0, pn⟩ fun k1 ρ1 => isLst (k1.rd ρ1) = true ∧ tb ρ1 fun k2 ρ2 => gets (k1.rd ρ2) fun d1 => gets (k2.rd ρ2) fun d2 => gets (idxD d1 d2) fun r => P r ρ2 := rfl
end Dk
namespace Dk
open PySem PySem.Spec PyProof.Rows L2
inductive Pl where
  | mk (k : Nat) (ps : List Pl)
inductive PlOk (m : Memo) : Nat → Pl → Prop
  | mk {node k : Nat} {n : List Alt} {a : Alt} {ps : List Pl} : m[node]? = some n → n[k]? = some a → ps.length = a.2.length → (∀ (j nd : Nat) (p : Pl), a.2[j]? = some nd → ps[j]? = some p → PlOk m nd p) → PlOk m node (.mk k ps)
def addV (xs ys : List Int) : List Int := (xs.zip ys).map fun p => p.1 + p.2
theorem addV_len {xs ys : List Int} (h : xs.length = ys.length) : (addV xs ys).length = xs.length := by simp [addV, h]
def altAt (m : Memo) (node k : Nat) : Alt := (m.getD node []).getD k ([], [])
theorem altAt_of {m : Memo} {node k : Nat} {n : List Alt} {a : Alt} (h1 : m[node]? = some n) (h2 : n[k]? = some a) : altAt m node k = a := by
  unfold altAt
  rw [show m.getD node [] = n from getD_of h1]
  exact getD_of h2
mutual
def amP (m : Memo) : Nat → Pl → List Int
  | node, .mk k ps => amPs m (altAt m node k).1 (altAt m node k).2 ps
def amPs (m : Memo) : List Int → List Nat → List Pl → List Int
  | acc, nd :: ns, p :: ps => amPs m (addV acc (amP m nd p)) ns ps
  | acc, _, _ => acc
end
end Dk
namespace Dk
open PySem PySem.Spec PyProof.Rows L2
theorem dot_addL : ∀ {xs ys zs : List Int}, xs.length = ys.length → dotI (addV xs ys) zs = dotI xs zs + dotI ys zs
  | [], [], zs, _ => by simp [dotI, addV]
  | [], _ :: _, _, h => by simp at h
  | _ :: _, [], _, h => by simp at h
  | x :: xs, y :: ys, [], _ => by simp [dotI]
  | x :: xs, y :: ys, z :: zs, h => by
    have ih := dot_addL (xs := xs) (ys := ys) (zs := zs) (by simpa using h)
    have e1 : dotI (addV (x :: xs) (y :: ys)) (z :: zs) = (x + y) * z + dotI (addV xs ys) zs := by simp [dotI, addV]
    have e2 : dotI (x :: xs) (z :: zs) = x * z + dotI xs zs := by simp [dotI]
    have e3 : dotI (y :: ys) (z :: zs) = y * z + dotI ys zs := by simp [dotI]
    rw [e1, e2, e3, ih, Int.add_mul]
    omega
theorem dot_addR {xs ys zs : List Int} (h : xs.length = ys.length) : dotI zs (addV xs ys) = dotI zs xs + dotI zs ys := by
  rw [dot_comm, dot_addL h, dot_comm xs, dot_comm ys]
theorem own_add {cs : List (List Int)} {a b : List Int} (h : a.length = b.length) : ownC cs (addV a b) = addV (ownC cs a) (ownC cs b) := by
  unfold ownC
  induction cs with
  | nil => rfl
  | cons c cs ih =>
    rw [List.map_cons, List.map_cons, List.map_cons, ih, dot_addR h]
    simp [addV]
def priceV (cs : List (List Int)) (mix am : List Int) : Int := dotI (ownC cs am) mix
theorem price_add {cs : List (List Int)} {mix a b : List Int} (h : a.length = b.length) : priceV cs mix (addV a b) = priceV cs mix a + priceV cs mix b := by
  unfold priceV
  rw [own_add h, dot_addL (by simp [ownC])]
section
variable {m : Memo} {size : Nat}
def SizeOk (m : Memo) (size : Nat) : Prop := ∀ n ∈ m, ∀ a ∈ n, a.1.length = size
theorem amPs_len (hs : SizeOk m size) : ∀ (ns : List Nat) (ps : List Pl) (acc : List Int), acc.length = size → (∀ (j nd : Nat) (p : Pl), ns[j]? = some nd → ps[j]? = some p → (amP m nd p).length = size) → (amPs m acc ns ps).length = size
  | [], ps, acc, h, _ => by rw [amPs]; exact h; all_goals simp
  | nd :: ns, [], acc, h, _ => by rw [amPs]; exact h; all_goals simp
  | nd :: ns, p :: ps, acc, h, hp => by
    rw [amPs]
    have h0 := hp 0 nd p rfl rfl
    exact amPs_len hs ns ps _ (by rw [addV_len (by omega)]; exact h) fun j nd' p' e1 e2 => hp (j + 1) nd' p' (by simpa using e1) (by simpa using e2)
theorem amP_mk {node k : Nat} {n : List Alt} {a : Alt} {ps : List Pl} (hn : m[node]? = some n) (ha : n[k]? = some a) : amP m node (.mk k ps) = amPs m a.1 a.2 ps := by
  rw [amP, altAt_of hn ha]
theorem amP_len (hs : SizeOk m size) {node : Nat} {p : Pl} (h : PlOk m node p) : (amP m node p).length = size := by
  induction h with
  | mk hn ha hl _ ih =>
    rw [amP_mk hn ha]
    exact amPs_len hs _ _ _ (hs _ (List.mem_of_getElem? hn) _ (List.mem_of_getElem? ha)) ih
variable {cs : List (List Int)} {mix : List Int}
def vP (m : Memo) (cs : List (List Int)) (mix : List Int) (node : Nat) (p : Pl) : Int := priceV cs mix (amP m node p)
theorem price_amPs (hs : SizeOk m size) : ∀ (ns : List Nat) (ps : List Pl) (acc : List Int), acc.length = size → ps.length = ns.length → (∀ (j nd : Nat) (p : Pl), ns[j]? = some nd → ps[j]? = some p → (amP m nd p).length = size) →
    priceV cs mix (amPs m acc ns ps) = priceV cs mix acc + (List.zipWith (vP m cs mix) ns ps).sum
  | [], [], acc, h, _, _ => by rw [amPs]; simp; all_goals simp
  | [], _ :: _, _, _, h, _ => by simp at h
  | _ :: _, [], _, _, h, _ => by simp at h
  | nd :: ns, p :: ps, acc, h, hl, hp => by
    have h0 := hp 0 nd p rfl rfl
    rw [amPs, price_amPs hs ns ps _ (by rw [addV_len (by omega)]; exact h) (by simpa using hl) (fun j nd' p' e1 e2 => hp (j + 1) nd' p' (by simpa using e1) (by simpa using e2)), price_add (by omega)]
    simp [vP]
    omega
theorem vP_mk (hs : SizeOk m size) {node k : Nat} {n : List Alt} {a : Alt} {ps : List Pl} (hn : m[node]? = some n) (ha : n[k]? = some a) (hl : ps.length = a.2.length) (hp : ∀ (j nd : Nat) (p : Pl), a.2[j]? = some nd → ps[j]? = some p → PlOk m nd p) :
    vP m cs mix node (.mk k ps) = priceV cs mix a.1 + (List.zipWith (vP m cs mix) a.2 ps).sum := by
  unfold vP
  rw [amP_mk hn ha, price_amPs hs _ _ _ (hs _ (List.mem_of_getElem? hn) _ (List.mem_of_getElem? ha)) hl fun j nd p e1 e2 => amP_len hs (hp j nd p e1 e2)]
  rfl
theorem sN_zip {nums : List Int} {v : Nat → Pl → Int} : ∀ (ns : List Nat) (ps : List Pl), ps.length = ns.length → (∀ (j nd : Nat) (p : Pl), ns[j]? = some nd → ps[j]? = some p → gI nums nd ≤ v nd p) → sN nums ns ≤ (List.zipWith v ns ps).sum
  | [], [], _, _ => by simp [sN]
  | [], _ :: _, h, _ => by simp at h
  | _ :: _, [], h, _ => by simp at h
  | nd :: ns, p :: ps, h, hp => by
    have h0 := hp 0 nd p rfl rfl
    have ih := sN_zip (v := v) ns ps (by simpa using h) fun j nd' p' e1 e2 => hp (j + 1) nd' p' (by simpa using e1) (by simpa using e2)
    have e : sN nums (nd :: ns) = gI nums nd + sN nums ns := by simp [sN]
    rw [e, List.zipWith_cons_cons, List.sum_cons]
    omega
theorem sN_zipE {nums : List Int} {v : Nat → Pl → Int} {b : Nat → Pl} : ∀ (ns : List Nat), (∀ x ∈ ns, v x (b x) = gI nums x) → (List.zipWith v ns (ns.map b)).sum = sN nums ns
  | [], _ => by simp [sN]
  | nd :: ns, h => by
    have ih := sN_zipE (v := v) (b := b) (nums := nums) ns fun x hx => h x (by simp [hx])
    have e : sN nums (nd :: ns) = gI nums nd + sN nums ns := by simp [sN]
    rw [List.map_cons, List.zipWith_cons_cons, List.sum_cons, ih, e, h nd (by simp)]
theorem ways_le {nums : List Int} {n : List Alt} {a : Alt} (ha : a ∈ n) : leastW cs mix nums n ≤ priceV cs mix a.1 + sN nums a.2 := by
  have hne : waysL cs mix nums n ≠ [] := by
    intro e
    unfold waysL at e
    rw [List.map_eq_nil_iff] at e
    rw [e] at ha
    cases ha
  obtain ⟨z, hz⟩ := minI_some hne
  unfold leastW
  rw [hz]
  exact (minI_spec hz).2 _ (List.mem_map.mpr ⟨a, ha, rfl⟩)
theorem nums_at (hm : Good m) {i : Nat} {n : List Alt} (h : m[i]? = some n) : gI (numbersL cs mix m) i = leastW cs mix (numbersL cs mix m) n :=
  gI_of (dp_get least_loc h fun a ha x hx => ((hm i _ h).2.2 a ha).2 x hx)
theorem nums_le (hm : Good m) (hs : SizeOk m size) {node : Nat} {p : Pl} (h : PlOk m node p) : gI (numbersL cs mix m) node ≤ vP m cs mix node p := by
  induction h with
  | mk hn ha hl hp ih =>
    rw [vP_mk hs hn ha hl hp, nums_at hm hn]
    have h1 := ways_le (cs := cs) (mix := mix) (nums := numbersL cs mix m) (List.mem_of_getElem? ha)
    have h2 := sN_zip (nums := numbersL cs mix m) (v := vP m cs mix) _ _ hl ih
    omega
def leastIx (cs : List (List Int)) (mix nums : List Int) (n : List Alt) : Nat := ((waysL cs mix nums n).findIdx? fun z => z == leastW cs mix nums n).getD 0
def bestG (cs : List (List Int)) (mix nums : List Int) (acc : List Pl) (n : List Alt) : Pl := .mk (leastIx cs mix nums n) ((n.getD (leastIx cs mix nums n) ([], [])).2.map fun x => acc.getD x (.mk 0 []))
abbrev bests (cs : List (List Int)) (mix : List Int) (m : Memo) : List Pl := dp (bestG cs mix (numbersL cs mix m)) m
theorem leastIx_ok {nums : List Int} {n : List Alt} (h : n ≠ []) : (waysL cs mix nums n).findIdx? (fun z => z == leastW cs mix nums n) = some (leastIx cs mix nums n) ∧ ∃ a, n[leastIx cs mix nums n]? = some a ∧ priceV cs mix a.1 + sN nums a.2 = leastW cs mix nums n := by
  cases e : (waysL cs mix nums n).findIdx? fun z => z == leastW cs mix nums n with
  | none =>
    obtain ⟨a, ha, e1⟩ := leastW_mem (cs := cs) (mix := mix) (nums := nums) h
    rw [List.findIdx?_eq_none_iff] at e
    have := e (dotI (ownC cs a.1) mix + sN nums a.2) (List.mem_map.mpr ⟨a, ha, rfl⟩)
    rw [e1] at this
    simp at this
  | some j =>
    have ej : leastIx cs mix nums n = j := by unfold leastIx; rw [e]; rfl
    rw [ej]
    obtain ⟨z, h1, h2, _⟩ := findIdx_first e
    unfold waysL at h1
    rw [List.getElem?_map] at h1
    obtain ⟨a, h3, h4⟩ := Option.map_eq_some_iff.mp h1
    exact ⟨rfl, a, h3, by rw [← eq_of_beq h2, ← h4]; rfl⟩
theorem best_loc {nums : List Int} : Loc (bestG cs mix nums) := fun acc bcc n h => by
  unfold bestG
  congr 1
  refine List.map_congr_left fun x hx => ?_
  cases e : n[leastIx cs mix nums n]? with
  | none =>
    rw [List.getD_eq_getElem?_getD, e] at hx
    cases hx
  | some a =>
    rw [getD_of e] at hx
    exact getD_app (h a (List.mem_of_getElem? e) x hx)
theorem best_ok (hm : Good m) (hs : SizeOk m size) : ∀ (i : Nat), i < m.length → PlOk m i ((bests cs mix m).getD i (.mk 0 [])) ∧ vP m cs mix i ((bests cs mix m).getD i (.mk 0 [])) = gI (numbersL cs mix m) i := by
  intro i
  induction i using Nat.strongRecOn with
  | _ i ih =>
    intro hi
    have hn : m[i]? = some m[i] := List.getElem?_eq_getElem hi
    obtain ⟨g0, g1, g2⟩ := hm i _ hn
    obtain ⟨_, a, ha, he⟩ := leastIx_ok (cs := cs) (mix := mix) (nums := numbersL cs mix m) g0
    have hb : (bests cs mix m).getD i (.mk 0 []) = .mk (leastIx cs mix (numbersL cs mix m) m[i]) (a.2.map fun x => (bests cs mix m).getD x (.mk 0 [])) := by
      rw [getD_of (dp_get best_loc hn fun a ha x hx => (g2 a ha).2 x hx)]
      show Pl.mk (leastIx cs mix (numbersL cs mix m) m[i]) ((m[i].getD (leastIx cs mix (numbersL cs mix m) m[i]) ([], [])).2.map fun x => (bests cs mix m).getD x (.mk 0 [])) = _
      rw [getD_of ha]
    have hx := (g2 a (List.mem_of_getElem? ha)).2
    have hp : ∀ (j nd : Nat) (p : Pl), a.2[j]? = some nd → (a.2.map fun x => (bests cs mix m).getD x (.mk 0 []))[j]? = some p → PlOk m nd p := fun j nd p e1 e2 => by
      rw [List.getElem?_map, e1] at e2
      cases e2
      have := hx nd (List.mem_of_getElem? e1)
      exact (ih nd this (by omega)).1
    rw [hb]
    refine ⟨.mk hn ha (by simp) hp, ?_⟩
    rw [vP_mk hs hn ha (by simp) hp, nums_at hm hn, sN_zipE (nums := numbersL cs mix m) (b := fun x => (bests cs mix m).getD x (.mk 0 [])) _ fun x hx' => (ih x (hx x hx') (by have := hx x hx'; omega)).2]
    exact he
end
end Dk
namespace Dk
open PySem PySem.Spec PyProof.Rows L2
mutual
def noDi : D → Bool
  | .dict _ => false
  | .list ds => noDiA ds
  | .tuple ds => noDiA ds
  | _ => true
def noDiA : List D → Bool
  | [] => true
  | d :: ds => noDi d && noDiA ds
end
theorem noDi_list {ds : List D} : noDi (.list ds) = noDiA ds := by rw [noDi]
theorem noDi_tuple {ds : List D} : noDi (.tuple ds) = noDiA ds := by rw [noDi]
theorem noDiA_iff : ∀ {ds : List D}, noDiA ds = true ↔ ∀ d ∈ ds, noDi d = true
  | [] => by simp [noDiA]
  | d :: ds => by
    rw [noDiA, Bool.and_eq_true, noDiA_iff]
    simp
theorem pairL_zip : ∀ xs ys : List D, pairL xs ys = (xs.zip ys).map fun p => PyData.tuple [p.1, p.2]
  | [], _ => rfl
  | _ :: _, [] => rfl
  | x :: xs, y :: ys => by
    have := pairL_zip xs ys
    unfold pairL at this ⊢
    rw [List.zipWith_cons_cons, this, List.zip_cons_cons, List.map_cons]
theorem addV_bd {xs ys : List Int} {A B : Int} (hx : ∀ x ∈ xs, 0 ≤ x ∧ x ≤ A) (hy : ∀ y ∈ ys, 0 ≤ y ∧ y ≤ B) : ∀ z ∈ addV xs ys, 0 ≤ z ∧ z ≤ A + B := fun z hz => by
  obtain ⟨p, hp, rfl⟩ := List.mem_map.mp hz
  obtain ⟨h1, h2⟩ := List.of_mem_zip hp
  have := hx _ h1
  have := hy _ h2
  omega
theorem amPs_bd {m : Memo} {B : Int} : ∀ (ns : List Nat) (ps : List Pl) (acc : List Int) (A : Int), ns.length ≤ 2 → 0 ≤ B → (∀ x ∈ acc, 0 ≤ x ∧ x ≤ A) → (∀ (j nd : Nat) (p : Pl), ns[j]? = some nd → ps[j]? = some p → ∀ x ∈ amP m nd p, 0 ≤ x ∧ x ≤ B) → ∀ x ∈ amPs m acc ns ps, 0 ≤ x ∧ x ≤ A + ns.length * B
  | [], ps, acc, A, _, _, h, _ => by rw [amPs]; simpa using h; all_goals simp
  | n :: ns, [], acc, A, _, hB, h, _ => by
    rw [amPs]
    · intro x hx
      have := h x hx
      have : 0 ≤ ((n :: ns).length : Int) * B := Int.mul_nonneg (by omega) hB
      omega
    all_goals simp
  | n :: ns, p :: ps, acc, A, hl, hB, h, hp => by
    intro x hx
    rw [amPs] at hx
    have := amPs_bd ns ps _ (A + B) (by simp at hl; omega) hB (addV_bd h (hp 0 n p rfl rfl)) (fun j nd' p' e1 e2 => hp (j + 1) nd' p' (by simpa using e1) (by simpa using e2)) x hx
    have e2 : ((n :: ns).length : Int) * B = (ns.length : Int) * B + B := by
      rw [List.length_cons, Int.natCast_add, Int.add_mul]
      simp
    omega
theorem amP_bd {m : Memo} (hm : Good m) (ha : ∀ n ∈ m, ∀ a ∈ n, ∀ x ∈ a.1, 0 ≤ x ∧ x ≤ 1000000) {node : Nat} {p : Pl} (h : PlOk m node p) : ∀ x ∈ amP m node p, 0 ≤ x ∧ x ≤ 1000000 * 2 ^ (node + 1) - 1000000 := by
  induction h with
  | @mk node k n a ps hn hk hl hp ih =>
    rw [amP_mk hn hk]
    obtain ⟨g1, g2⟩ := (hm node n hn).2.2 a (List.mem_of_getElem? hk)
    have pw : ∀ i : Nat, (0 : Int) < 2 ^ i := fun i => Int.pow_pos (by decide)
    have mono : ∀ (i d : Nat), (2 : Int) ^ i ≤ 2 ^ (i + d) := fun i d => by
      induction d with
      | zero => exact Int.le_refl _
      | succ d ihd => rw [← Nat.add_assoc, Int.pow_succ]; have := pw (i + d); omega
    intro x hx
    have := amPs_bd (m := m) (B := 1000000 * 2 ^ node - 1000000) a.2 ps a.1 1000000 g1 (by have := pw node; omega) (ha n (List.mem_of_getElem? hn) a (List.mem_of_getElem? hk)) (fun j nd p e1 e2 y hy => by
      have h1 := ih j nd p e1 e2 y hy
      have h2 := g2 nd (List.mem_of_getElem? e1)
      have h3 := mono (nd + 1) (node - (nd + 1))
      rw [show nd + 1 + (node - (nd + 1)) = node by omega] at h3
      omega) x hx
    have h2 : ((a.2.length : Nat) : Int) * (1000000 * 2 ^ node - 1000000) ≤ 2 * (1000000 * 2 ^ node - 1000000) := Int.mul_le_mul_of_nonneg_right (by omega) (by have := pw node; omega)
    rw [Int.pow_succ]
    omega
structure PriceOk (m : Memo) (cs : List (List Int)) (size : Nat) : Prop where
  am : ∀ n ∈ m, ∀ a ∈ n, a.1.length = size ∧ ∀ x ∈ a.1, 0 ≤ x ∧ x ≤ 1000000
  ml : m.length ≤ 24
  sz : size ≤ 100
  co : ∀ c ∈ cs, c.length = size ∧ ∀ x ∈ c, 0 ≤ x ∧ x ≤ 1000
theorem PriceOk.sizes {m : Memo} {cs : List (List Int)} {size : Nat} (K : PriceOk m cs size) : SizeOk m size := fun n hn a ha => (K.am n hn a ha).1
theorem PlOk.lt {m : Memo} {node : Nat} {p : Pl} (h : PlOk m node p) : node < m.length := by
  cases h with
  | mk hn _ _ _ => exact (List.getElem?_eq_some_iff.mp hn).1
theorem PriceOk.ap {m : Memo} {cs : List (List Int)} {size : Nat} (K : PriceOk m cs size) (hm : Good m) {node : Nat} {p : Pl} (h : PlOk m node p) : ∀ x ∈ amP m node p, 0 ≤ x ∧ x ≤ 34000000000000 := fun x hx => by
  have h1 := amP_bd hm (fun n hn a ha => (K.am n hn a ha).2) h x hx
  have h2 : (2 : Int) ^ (node + 1) ≤ 2 ^ 24 := by
    have h3 := Nat.pow_le_pow_right (n := 2) (by decide) (show node + 1 ≤ 24 by have := h.lt; have := K.ml; omega)
    have e : ∀ k : Nat, ((2 ^ k : Nat) : Int) = 2 ^ k := fun k => by simp
    rw [← e, ← e]
    exact Int.ofNat_le.mpr h3
  have e3 : (2 : Int) ^ 24 = 16777216 := by decide
  omega
def lastP (cs : List (List Int)) (mix : List Int) (m : Memo) : Pl := (bests cs mix m).getD (m.length - 1) (.mk 0 [])
theorem canLay_ints : ∀ ns : List Int, PyData.canLayAll0 (ns.map .int) = true
  | [] => rfl
  | n :: ns => by rw [List.map_cons, PyData.canLayAll0, canLay_ints ns]; rfl
theorem shaped_ints (ns : List Int) : SeqAt.shaped (.list (ns.map .int)) = true := by
  unfold SeqAt.shaped
  rw [show (PyData.list (ns.map .int)).canLay0 = PyData.canLayAll0 (ns.map .int) by rw [PyData.canLay0], canLay_ints, depth_list]
  have := depth_ints (ns := ns)
  simp
  omega
end Dk
namespace Dk
open PySem PySem.Spec PyProof.Rows L2
theorem lcW_fm {S : Type} [StK S] {α : Type} {c : Sc} {items : List D} {g : (GW S)} {tt : (BW S)} {te : (OW S)} {vs : List Nat} {Q : List D → (En S) → Prop} {ρ0 : (En S)} {ts : List α} (e : α → D) (t : α → Bool) (f : α → D) (hi : items = ts.map e) (hc : c.items ρ0 = some items)
    (step : ∀ x ∈ ts, ∀ N : Option D → (En S) → Prop, (t x = true → N (some (f x)) ρ0) → (t x = false → N none ρ0) → g (e x) ρ0 fun ρ1 => tt ρ1 fun b ρ2 => if b = true then te ρ2 fun k ρ3 => gets k.valD fun y => N (some y) ⟨wipeD ρ3.sl vs, ρ3.pn⟩ else N none ⟨wipeD ρ2.sl vs, ρ2.pn⟩)
    (q : Q ((ts.filter t).map f) ρ0) : lcW c items g tt te vs Q items [] ρ0 := by
  refine lcW_inv (fun i acc ρ => ρ = ρ0 ∧ acc = ((ts.take i).filter t).map f) ?_ ?_ ?_ ⟨rfl, rfl⟩
  · rintro i acc ρ ⟨rfl, _⟩
    exact hc
  · rintro i d acc ρ h ⟨rfl, rfl⟩ N hN
    rw [hi, List.getElem?_map] at h
    obtain ⟨x, h1, rfl⟩ := Option.map_eq_some_iff.mp h
    have := step x (List.mem_of_getElem? h1) (fun o ρ' => match o with | some y => N (((ts.take i).filter t).map f ++ [y]) ρ' | none => N (((ts.take i).filter t).map f) ρ')
      (fun ht => hN _ _ ⟨rfl, by rw [take_snocA h1, List.filter_append]; simp [ht]⟩) (fun ht => hN _ _ ⟨rfl, by rw [take_snocA h1, List.filter_append]; simp [ht]⟩)
    exact this
  · rintro acc ρ ⟨rfl, rfl⟩
    rw [hi, List.length_map, List.take_length]
    exact q
theorem eqv_txt {x y : Str} : PyData.eqv (.str x) (.str y) = decide (x = y) := by
  rw [Bool.eq_iff_iff]
  simp [PyData.eqv]
end Dk
namespace Dk
open PySem PySem.Spec PyProof.Rows L2
variable {S : Type} [StK S]
theorem drs_rg {K : Fg} {F : Hp} {lo : Int} : ∀ {xs : List Nat}, DRs K F (xs.map fun i => PyData.int (lo + (i : Nat))) (xs.map fun i => V.int (lo + (i : Nat)))
  | [] => .nil
  | x :: xs => .cons (DR.int_.mpr rfl) drs_rg
section
variable {X : Cx} {a : Expr} {t : (OW S)} {pos p p1 pos1 : Pos} {k : Nat}
def dRg1 (own : Bool) (t : (OW S)) : (DW S) := fun ρ P => t ρ fun k ρ1 => gets ((k.rd ρ1).bind D.int?) fun j => (-(2 ^ 62) ≤ j ∧ j ≤ 16777216) ∧ P (if own then .own (rangeD 0 j.toNat) else .val (.tuple (rangeD 0 j.toNat))) ρ1
theorem rg_step {own : Bool} {σ : L2.St} {H : Hp} {Q : VK} (h : liftO X.K (tmpD (dRg1 own t)) σ H Q) :
    liftO X.K t σ H fun x H1 => ∃ n, x = .int n ∧ RgOk 0 n ∧ (if own then ∀ q, H1 q = none → Q (.ref q) (upd H1 q (.lst (rgV 0 n))) else NewT H1 Q (rgV 0 n)) := by
  obtain ⟨B, pa, τ, F, ρ, θ, P, R, hl, h, q⟩ := toE h
  refine ⟨B, pa, τ, F, ρ, θ, _, R, hl, h, fun k1 ρ1 v H1 F1 h1 hl1 R1 s1 => ?_⟩
  obtain ⟨j, e, ⟨b1, b2⟩, h1⟩ := gets_elim h1
  obtain ⟨d, e1, e2⟩ := Option.bind_eq_some_iff.mp e
  have e3 := D.int?_some e2
  subst e3
  have hτ : τ.length = θ.length := by have := R1.pop.len; simp at this; omega
  have R2 : Rel X.K B pa (σ ++ (τ ++ [some v])) H1 F1 (ρ1.sl ++ (θ ++ [k1.sl])) ρ1.pn := by simpa only [List.append_assoc] using R1
  have rd := read_at R2 hl1 τ.length (app_last _ _) (getN hτ.symm) s1 e1
  have hsz : sizeLine = 16777216 := sizeLine_eq
  refine ⟨j, by rw [rd.int], ⟨by omega, by omega, b1, by omega, by omega⟩, ?_⟩
  have hd : DRs X.K F1 (rangeD 0 j.toNat) (rgV 0 j) := by unfold rangeD rgV; rw [Int.sub_zero]; exact drs_rg
  have hlen : (rgV 0 j).length ≤ sizeLine := by rw [rgV_length]; omega
  have R3 := R1.pop
  cases own with
  | true =>
    have g : Gives X.K F1 H1 (.own (rangeD 0 j.toNat)) Q := R3.gives fun v' H' F' R' => q _ _ v' H' F' h1 hl1 R'
    exact fun l hn => g _ l hd hlen hn
  | false =>
    have g : Gives X.K F1 H1 (.val (.tuple (rangeD 0 j.toNat))) Q := R3.gives fun v' H' F' R' => q _ _ v' H' F' h1 hl1 R'
    exact g.2.1 _ _ rfl hd hlen
theorem ce_tupleRg1 (hx : XO X k) (ht : X.mg "tuple" = none) (hr : X.mg "range" = none) (ha : CO (S := S) X a t) (hg : Gl X "tuple" := by rfl) (hg2 : Gl X "range" := by rfl)
    (hs : starEach [a] X.env = (false, eval a X.env) :: starEach [] X.env := by rfl) (hs2 : starEach [Expr.Call (.Name "range" p) [a] [] pos1] X.env = (false, eval (Expr.Call (.Name "range" p) [a] [] pos1) X.env) :: starEach [] X.env := by rfl) :
    CE (S := S) X (.Call (.Name "tuple" p1) [Expr.Call (.Name "range" p) [a] [] pos1] [] pos) (dRg1 false t) :=
  pe_mono (pe_tupRgC hx.calm hg ht (prg_1 hg2 hr ha hs) hs2) fun σ H Q h => rg_step h
end
variable {t : (OW S)} {ρ : (En S)} {P : Rs → (En S) → Prop}
@[simp] theorem v_rgT : dRg1 false t ρ P = t ρ fun k ρ1 => gets ((k.rd ρ1).bind D.int?) fun j => (-(2 ^ 62) ≤ j ∧ j ≤ 16777216) ∧ P (.val (.tuple (rangeD 0 j.toNat))) ρ1 := rfl
@[simp] theorem v_rgL : dRg1 true t ρ P = t ρ fun k ρ1 => gets ((k.rd ρ1).bind D.int?) fun j => (-(2 ^ 62) ≤ j ∧ j ≤ 16777216) ∧ P (.own (rangeD 0 j.toNat)) ρ1 := rfl
end Dk
namespace Dk
open PySem PySem.Spec PyProof.Rows L2
variable {S : Type} [StK S]
section
variable {X : Cx}
def mulZ : D → D → Option Rs
  | .tuple xs, .int k => if -(2 ^ 63) ≤ k ∧ k ≤ 1000 ∧ xs.length ≤ 1000 then some (.val (.tuple (List.replicate k.toNat xs).flatten)) else none
  | a, b => mulD a b
end
@[simp↓] theorem g_mulZ {xs : List D} {i : Int} {k : Rs → Prop} : gets (mulZ (.tuple xs) (.int i)) k = ((-(2 ^ 63) ≤ i ∧ i ≤ 1000 ∧ xs.length ≤ 1000) ∧ k (.val (.tuple (List.replicate i.toNat xs).flatten))) := by unfold mulZ; exact g_ite
def isB (neg : Bool) (d e : D) : Option Rs := match d, e with
  | .bool a, .bool b => some (bl (if neg then !decide (a = b) else decide (a = b)))
  | d, e => isD neg d e
section
variable {X : Cx}
end
@[simp↓] theorem g_isB {a b : Bool} {k : Rs → Prop} : gets (isB false (.bool a) (.bool b)) k = k (.val (.bool (decide (a = b)))) := rfl
@[simp↓] theorem g_isBn {a b : Bool} {k : Rs → Prop} : gets (isB true (.bool a) (.bool b)) k = k (.val (.bool (!decide (a = b)))) := rfl
end Dk
namespace Dk
open PySem PySem.Spec PyProof.Rows L2
end Dk
namespace Dk
open PySem PySem.Spec PyProof.Rows L2
structure Sm (c h : Nat) (d : D) : Prop where
  p : pl d = true
  w : wgt d ≤ c
  dp : d.depth ≤ h
theorem Sm.mono {c h c' h' : Nat} {d : D} (s : Sm c h d) (hc : c ≤ c') (hh : h ≤ h') : Sm c' h' d := ⟨s.p, Nat.le_trans s.w hc, Nat.le_trans s.dp hh⟩
theorem wgts_le {c : Nat} : ∀ {xs : List D}, (∀ d ∈ xs, wgt d ≤ c) → wgts xs ≤ xs.length * (c + 2)
  | [], _ => by simp [wgts_nil]
  | x :: xs, h => by
    have h1 := h x (by simp)
    have h2 := wgts_le (xs := xs) fun y hy => h y (by simp [hy])
    rw [wgts_cons, List.length_cons, Nat.succ_mul]
    omega
theorem Sm.tup {c h L : Nat} {xs : List D} (hx : ∀ d ∈ xs, Sm c h d) (hl : xs.length ≤ L) : Sm (L * (c + 2) + 3) (h + 1) (.tuple xs) := by
  refine ⟨by rw [pl_tuple]; exact plA_iff.mpr fun d hd => (hx d hd).p, ?_, ?_⟩
  · have h1 := wgts_le fun d hd => (hx d hd).w
    have h2 : xs.length * (c + 2) ≤ L * (c + 2) := Nat.mul_le_mul_right _ hl
    rw [wgt_tuple]
    omega
  · rw [depth_tuple]
    have := depthAll_le.mpr fun d hd => (hx d hd).dp
    omega
theorem Sm.int {i : Int} (h : i.natAbs < 1000000000000) : Sm 13 0 (.int i) := ⟨pl_int (by omega), wgt_small h, Nat.le_refl _⟩
theorem Sm.ints {is : List Int} {L : Nat} (h : ∀ i ∈ is, i.natAbs < 1000000000000) (hl : is.length ≤ L) : Sm (L * 15 + 3) 1 (.tuple (is.map .int)) := Sm.tup (c := 13) (h := 0) (fun d hd => by
  obtain ⟨i, hi, rfl⟩ := List.mem_map.mp hd
  exact Sm.int (h i hi)) (by rw [List.length_map]; exact hl)
theorem Vw.mid {W h c L : Nat} {xs ys : List D} {d : D} (v : Vw W h d) (hx : ∀ e ∈ xs, Sm c h e) (hy : ∀ e ∈ ys, Sm c h e) (lx : xs.length + ys.length ≤ L) : Vw (W + L * (c + 2) + 5) (h + 1) (.tuple (xs ++ d :: ys)) := by
  have h1 := wgts_le fun d hd => (hx d hd).w
  have h2 := wgts_le fun d hd => (hy d hd).w
  have h3 : (xs.length + ys.length) * (c + 2) ≤ L * (c + 2) := Nat.mul_le_mul_right _ lx
  rw [Nat.add_mul] at h3
  refine (Vw.around v (plA_iff.mpr fun d hd => (hx d hd).p) (plA_iff.mpr fun d hd => (hy d hd).p) (depthAll_le.mpr fun d hd => (hx d hd).dp) (depthAll_le.mpr fun d hd => (hy d hd).dp)).mono (by omega) (Nat.le_refl _)
theorem sm_alt {size i : Nat} {a : Alt} (hs : size ≤ 4) (hi : i ≤ 1000) (h : FineA size i a) : sm (altD a) = true ∧ Sm 110 2 (altD a) := by
  obtain ⟨p, w, d⟩ := alt_ok hs hi h
  obtain ⟨⟨h1, h2⟩, h3, h4⟩ := h
  refine ⟨?_, p, w, d⟩
  have big : ∀ k : Int, 0 ≤ k → k ≤ 1000000 → sm (.int k) = true := fun k k0 k1 => by
    rw [sm, decide_eq_true_eq]
    exact Nat.lt_of_lt_of_le (show k.natAbs < 1000001 by omega) (by decide +kernel)
  unfold altD
  rw [sm_tup]
  refine ⟨by simp, smA_iff.mpr fun d hd => ?_⟩
  simp only [List.mem_cons, List.not_mem_nil, or_false] at hd
  rcases hd with rfl | rfl
  · rw [sm_tup]
    refine ⟨by rw [List.length_map]; omega, smA_iff.mpr fun d hd => ?_⟩
    obtain ⟨x, hx, rfl⟩ := List.mem_map.mp hd
    have := h2 x hx
    exact big x this.1 this.2
  · rw [sm_tup]
    refine ⟨by unfold needsL; rw [List.length_map]; omega, smA_iff.mpr fun d hd => ?_⟩
    unfold needsL at hd
    obtain ⟨x, hx, rfl⟩ := List.mem_map.mp hd
    have := h4 x hx
    exact big x (by omega) (by omega)
structure MemoS (m : Memo) : Prop where
  n0 : m ≠ []
  n1 : m.length ≤ 5
  size : ∃ size, 1 ≤ size ∧ size ≤ 3 ∧ ∃ B, Fine size 5 B m
theorem MemoS.node {m : Memo} (M : MemoS m) {n : List Alt} (hn : n ∈ m) : n ≠ [] ∧ n.length ≤ 5 ∧ (∀ a ∈ n, sm (altD a) = true ∧ Sm 110 2 (altD a) ∧ 1 ≤ a.1.length ∧ a.1.length ≤ 3 ∧ (∀ x ∈ a.1, 0 ≤ x ∧ x ≤ 1000000) ∧ a.2.length ≤ 2 ∧ ∀ x ∈ a.2, x ≤ 5) := by
  obtain ⟨size, s1, s2, B, F⟩ := M.size
  obtain ⟨i, hi, e⟩ := List.mem_iff_getElem.mp hn
  obtain ⟨h1, h2, h3⟩ := F.node i n (by rw [List.getElem?_eq_getElem hi, e])
  have := M.n1
  refine ⟨h1, h2, fun a ha => ?_⟩
  obtain ⟨q1, q2⟩ := sm_alt (by omega) (by omega) (h3 a ha)
  obtain ⟨⟨g1, g2⟩, g3, g4⟩ := h3 a ha
  exact ⟨q1, q2, by omega, by omega, g2, g3, fun x hx => by have := g4 x hx; omega⟩
theorem MemoS.nodeS {m : Memo} (M : MemoS m) {n : List Alt} (hn : n ∈ m) : Sm 563 3 (nodeD n) := Sm.tup (c := 110) (h := 2) (L := 5) (fun d hd => by
  obtain ⟨a, ha, rfl⟩ := List.mem_map.mp hd
  exact ((M.node hn).2.2 a ha).2.1) (by rw [List.length_map]; exact (M.node hn).2.1)
theorem MemoS.nodes {m : Memo} (M : MemoS m) : ∀ d ∈ m.map nodeD, Sm 563 3 d := fun d hd => by
  obtain ⟨n, hn, rfl⟩ := List.mem_map.mp hd
  exact M.nodeS hn
theorem MemoS.memo {m : Memo} (M : MemoS m) : Sm 2828 4 (memoD m) := Sm.tup (c := 563) (h := 3) (L := 5) M.nodes (by rw [List.length_map]; exact M.n1)
theorem MemoS.sm {m : Memo} (M : MemoS m) : sm (memoD m) = true := by
  unfold memoD
  rw [sm_tup]
  refine ⟨by have := M.n1; rw [List.length_map]; omega, smA_iff.mpr fun d hd => ?_⟩
  obtain ⟨n, hn, rfl⟩ := List.mem_map.mp hd
  unfold nodeD
  rw [sm_tup]
  refine ⟨by have := (M.node hn).2.1; rw [List.length_map]; omega, smA_iff.mpr fun d hd => ?_⟩
  obtain ⟨a, ha, rfl⟩ := List.mem_map.mp hd
  exact ((M.node hn).2.2 a ha).1
end Dk
namespace Dk
open PySem PySem.Spec PyProof.Rows L2
variable {S : Type} [StK S]
section
variable {X : Cx} {k : Nat} {pins : List (Addr × Obj)} {σ : L2.St} {H F : Hp} {s : Shared}
mutual
theorem DR.reprK (I : L2.Inv X pins σ H s) (e : Le F H) : ∀ (d : D) (v : V) (u : Value), DR X.K F d v → RelV v u → d.showable = true → d.shown.length ≤ sizeLine →
    ∃ bs, ReadAtMost s.heap d.depth bs ∧ ReprK X.prog X.w bs s.heap d.depth u d.shown
  | .none, v, u, h, r, hs, hz => by
    obtain ⟨as, q, z⟩ := DR.reads I e _ v u h r
    exact ReprK.of_reads q hs (fun x => by simp [PyData.hasDict] at x) hz
  | .bool b, v, u, h, r, hs, hz => by
    obtain ⟨as, q, z⟩ := DR.reads I e _ v u h r
    exact ReprK.of_reads q hs (fun x => by simp [PyData.hasDict] at x) hz
  | .int i, v, u, h, r, hs, hz => by
    obtain ⟨as, q, z⟩ := DR.reads I e _ v u h r
    exact ReprK.of_reads q hs (fun x => by simp [PyData.hasDict] at x) hz
  | .str x, v, u, h, r, hs, hz => by
    obtain ⟨as, q, z⟩ := DR.reads I e _ v u h r
    exact ReprK.of_reads q hs (fun x => by simp [PyData.hasDict] at x) hz
  | .dict kvs, v, u, h, r, hs, hz => by
    obtain ⟨as, q, z⟩ := DR.reads I e _ v u h r
    exact ReprK.of_reads q hs (fun _ => z rfl) hz
  | .list xs, v, u, h, r, hs, hz => by
    obtain ⟨a, vs, rfl, h1, h2⟩ := DR.list_.mp h
    cases r
    obtain ⟨its, rv, ⟨o, n, ho, hc, _, hd⟩, _⟩ := I.list (.inl (.inl (e _ _ h1)))
    obtain ⟨as, hr, _⟩ := DRs.reads I e xs vs its h2 rv
    have hz' : (listText (PyData.shownAll xs)).length ≤ sizeLine := by simpa only [PyData.shown] using hz
    obtain ⟨bs, hb, hk⟩ := DRs.reprK I e xs vs its h2 rv (by simpa [PyData.showable] using hs) (fun t ht => Nat.le_trans (listText_mem_le ht) hz')
    have r : Reads s.heap (.ref a) (.list xs) _ := .list ho hc hd hr
    have hna : a ∉ bs := not_mem_of_deeper r (by simp only [PyData.depth]; omega) hb
    refine ⟨a :: bs, ReadAtMost.cons r (by simp only [PyData.depth]; omega) hb, ?_⟩
    simp only [PyData.depth, PyData.shown]
    cases its with
    | nil =>
      cases hr
      simp only [PyData.shownAll, listText_nil]
      exact ReprK.listEmpty ho hc hd
    | cons x l => exact ReprK.list ho hc hd hna (by simpa using hk.length_eq) (fun i y e => hk.item i y (by simpa using e))
  | .tuple xs, v, u, h, r, hs, hz => by
    obtain ⟨a, vs, rfl, h1, h2⟩ := DR.tuple_s h
    cases r
    obtain ⟨its, rv, ⟨o, ho, hc, n, hd⟩, _⟩ := I.tuple (e.t h1)
    obtain ⟨as, hr, _⟩ := DRs.reads I e xs vs its h2 rv
    have hz' : (tupleText (PyData.shownAll xs)).length ≤ sizeLine := by simpa only [PyData.shown] using hz
    obtain ⟨bs, hb, hk⟩ := DRs.reprK I e xs vs its h2 rv (by simpa [PyData.showable] using hs) (fun t ht => Nat.le_trans (tupleText_mem_le ht) hz')
    have r : Reads s.heap (.ref a) (.tuple xs) _ := .tuple ho hc hd hr
    have hna : a ∉ bs := not_mem_of_deeper r (by simp only [PyData.depth]; omega) hb
    refine ⟨a :: bs, ReadAtMost.cons r (by simp only [PyData.depth]; omega) hb, ?_⟩
    simp only [PyData.depth, PyData.shown]
    exact ReprK.tuple ho hc hd hna hk
theorem DRs.reprK (I : L2.Inv X pins σ H s) (e : Le F H) : ∀ (ds : List D) (vs : List V) (us : List Value), DRs X.K F ds vs → Vals vs us → PyData.showableAll ds = true → (∀ t ∈ PyData.shownAll ds, t.length ≤ sizeLine) →
    ∃ bs, ReadAtMost s.heap (PyData.depthAll ds) bs ∧ ReprAllK X.prog X.w bs s.heap (PyData.depthAll ds) us (PyData.shownAll ds)
  | [], vs, us, h, r, hs, hz => by
    rw [DRs.nil_.mp h] at r
    cases r
    exact ⟨[], (fun _ h => nomatch h), by simp only [PyData.shownAll]; exact .nil⟩
  | d :: ds, vs, us, h, r, hs, hz => by
    obtain ⟨v, vr, rfl, h2, h3⟩ := DRs.cons_.mp h
    cases r with
    | cons r1 r2 =>
      have hs' : d.showable = true ∧ PyData.showableAll ds = true := by simpa [PyData.showableAll] using hs
      obtain ⟨b1, hb1, k1⟩ := DR.reprK I e d _ _ h2 r1 hs'.1 (hz _ (by simp only [PyData.shownAll]; exact List.mem_cons_self ..))
      obtain ⟨b2, hb2, k2⟩ := DRs.reprK I e ds _ _ h3 r2 hs'.2 (fun t ht => hz t (by simp only [PyData.shownAll]; exact List.mem_cons_of_mem _ ht))
      refine ⟨b1 ++ b2, ?_, ?_⟩
      · intro b hm
        simp only [PyData.depthAll]
        rcases List.mem_append.mp hm with hm | hm
        · obtain ⟨d', as', r', hd'⟩ := hb1 b hm
          exact ⟨d', as', r', Nat.le_trans hd' (Nat.le_max_left _ _)⟩
        · obtain ⟨d', as', r', hd'⟩ := hb2 b hm
          exact ⟨d', as', r', Nat.le_trans hd' (Nat.le_max_right _ _)⟩
      · simp only [PyData.depthAll, PyData.shownAll]
        exact .cons ((k1.more fun b hb => List.mem_append_left _ hb).level_le (Nat.le_max_left _ _)) (k2.more_le (fun b hb => List.mem_append_right _ hb) (Nat.le_max_right _ _))
end
def reprOkZ (d : D) : Prop := d.showable = true ∧ d.shown.length ≤ sizeLine ∧ d.depth ≤ 100
instance {d : D} : Decidable (reprOkZ d) := by unfold reprOkZ; infer_instance
def reprZ : List D → Option Rs
  | [d] => if reprOkZ d then some (.val (.str d.shown)) else none
  | _ => none
@[simp↓] theorem g_reprZ {d : D} {k : Rs → Prop} : gets (reprZ [d]) k = (reprOkZ d ∧ k (.val (.str d.shown))) := by unfold reprZ; exact g_ite
theorem list_road {xs : List D} {a : Addr} {vs : List V} {its : List Value} {o : Obj} {n : Nat} {A : Around} {E : Value → Shared → Prop} {Q : Value → Shared → Prop} (I : L2.Inv X pins σ H s) (e : Le F H) (h2 : DRs X.K F xs vs) (rv : Vals vs its) (ho : s.heap.get? a = some o) (hc : o.cls = .type "list") (hd : o.data = .seq its.toArray n)
    (hs : (PyData.list xs).showable = true) (hz : (PyData.list xs).shown.length ≤ sizeLine) (hg : A.guards = some []) (hu : A.units + ((PyData.list xs).depth + 1) < cLine)
    (hQ : ∀ h' u tk, (∀ b o, s.heap.get? b = some o → h'.get? b = some o) → Q (.str (PyData.list xs).shown u) { s with heap := h', toks := tk }) : wpAny (model X.prog X.w) A (call (.builtin "repr") [.ref a]) Q E s := by
  obtain ⟨as, hr, _⟩ := DRs.reads I e xs vs its h2 rv
  have hz' : (listText (PyData.shownAll xs)).length ≤ sizeLine := by simpa only [PyData.shown] using hz
  obtain ⟨bs, hb, hk⟩ := DRs.reprK I e xs vs its h2 rv (by simpa [PyData.showable] using hs) (fun t ht => Nat.le_trans (listText_mem_le ht) hz')
  have r : Reads s.heap (.ref a) (.list xs) _ := .list ho hc hd hr
  have hna : a ∉ bs := not_mem_of_deeper r (by simp only [PyData.depth]; omega) hb
  have S : ShowsBy X.prog X.w s.heap a (.list xs) "list" "list.__repr__" := by
    refine ⟨PySem.F.slot_list_repr.toG, PySem.F.slot_list_str, PySem.F.slot_list_format, fun s hk0 => ⟨o, hk0 _ _ ho, hc⟩, fun A E s' Q hg hu hk0 hQ => ?_⟩
    simp only [PyData.depth] at hu
    simp only [PyData.shown] at hQ
    cases its with
    | nil =>
      cases hr
      simp only [PyData.shownAll, listText_nil] at hQ
      exact call_list_repr_empty ⟨o, hk0 _ _ ho, hc⟩ (hk0 _ _ ho) hd (hQ s'.heap _ _ fun _ _ e => e)
    | cons x l =>
      exact call_list_reprK ho hc hd hna (by simpa using hk.length_eq) (fun i y e => hk.item i y (by simpa using e)) hg (fun b _ => Clear.nil b) hu hk0 hQ hz'
  exact call_repr_slot (by omega) (S.typeIs s (fun _ _ e => e)) S.slotRepr (S.call A.in1 E s _ hg (by show A.units + 1 + (PyData.list xs).depth < cLine; omega) (fun _ _ e => e) fun h' u tk hk => ⟨_, _, rfl, hQ h' u tk hk⟩)
theorem tup_road {xs : List D} {a : Addr} {vs : List V} {its : List Value} {o : Obj} {n : Nat} {A : Around} {E : Value → Shared → Prop} {Q : Value → Shared → Prop} (I : L2.Inv X pins σ H s) (e : Le F H) (h2 : DRs X.K F xs vs) (rv : Vals vs its) (ho : s.heap.get? a = some o) (hc : o.cls = .type "tuple") (hd : o.data = .seq its.toArray n)
    (hs : (PyData.tuple xs).showable = true) (hz : (PyData.tuple xs).shown.length ≤ sizeLine) (hg : A.guards = some []) (hu : A.units + ((PyData.tuple xs).depth + 1) < cLine)
    (hQ : ∀ h' u tk, (∀ b o, s.heap.get? b = some o → h'.get? b = some o) → Q (.str (PyData.tuple xs).shown u) { s with heap := h', toks := tk }) : wpAny (model X.prog X.w) A (call (.builtin "repr") [.ref a]) Q E s := by
  obtain ⟨as, hr, _⟩ := DRs.reads I e xs vs its h2 rv
  have hz' : (tupleText (PyData.shownAll xs)).length ≤ sizeLine := by simpa only [PyData.shown] using hz
  obtain ⟨bs, hb, hk⟩ := DRs.reprK I e xs vs its h2 rv (by simpa [PyData.showable] using hs) (fun t ht => Nat.le_trans (tupleText_mem_le ht) hz')
  have r : Reads s.heap (.ref a) (.tuple xs) _ := .tuple ho hc hd hr
  have hna : a ∉ bs := not_mem_of_deeper r (by simp only [PyData.depth]; omega) hb
  have S : ShowsBy X.prog X.w s.heap a (.tuple xs) "tuple" "tuple.__repr__" := by
    refine ⟨PySem.F.slot_tuple_repr, PySem.F.slot_tuple_str, PySem.F.slot_tuple_format, fun s hk0 => ⟨o, hk0 _ _ ho, hc⟩, fun A E s' Q hg hu hk0 hQ => ?_⟩
    simp only [PyData.depth] at hu
    simp only [PyData.shown] at hQ
    exact call_tuple_reprK ho hc hd hna hk hg (fun b _ => Clear.nil b) hu hk0 hQ hz'
  exact call_repr_slot (by omega) (S.typeIs s (fun _ _ e => e)) S.slotRepr (S.call A.in1 E s _ hg (by show A.units + 1 + (PyData.tuple xs).depth < cLine; omega) (fun _ _ e => e) fun h' u tk hk => ⟨_, _, rfl, hQ h' u tk hk⟩)
theorem cd_reprZ (hx : XO X k) : CallD X (.builtin "repr") reprZ := by
  intro pins s σ H xs us Q I rv ⟨F, ds, r, ⟨hz0, hF⟩, hd, hg, q⟩
  unfold reprZ at hg
  split at hg
  · obtain ⟨⟨c1, c2, c3⟩, rfl⟩ := some_ite hg
    rename_i d
    by_cases hl : noList d = true ∨ d.hasDict = false
    · exact cd_repr hx pins s σ H xs us Q I rv ⟨F, [d], _, ⟨hz0, hF⟩, hd, by show (if reprOk d then _ else _) = _; rw [if_pos ⟨c1, c2, c3, hl⟩], q⟩
    · obtain ⟨v, rfl, h⟩ := hd.one
      obtain ⟨u, rfl, ru⟩ := vals1 rv
      have hu : X.A.units + (d.depth + 1) < cLine := by have := hx.room.un; omega
      have fin : ∀ (h' : Heap) (u : Tok) (tk : Nat), (∀ b o, s.heap.get? b = some o → h'.get? b = some o) → EP X pins σ Q (.str d.shown u) { s with heap := h', toks := tk } := fun h' u tk hk => ⟨.str d.shown, H, I.kept (t' := tk) hk, ⟨u, rfl⟩, q.str_⟩
      cases d with
      | list xs =>
        rcases h with h | ⟨ds, a, vs, e1, e2, h1, h2⟩
        · obtain ⟨a, vs, rfl, h1, h2⟩ := DR.list_.mp h
          cases ru
          obtain ⟨its, rv, ⟨o, n, ho, hc, _, hd⟩, _⟩ := I.list (.inl (.inl (hF _ _ h1)))
          exact list_road I hF h2 rv ho hc hd c1 c2 hx.gd hu fin
        · cases e1
          subst e2
          cases ru
          obtain ⟨its, rv, ⟨o, n, ho, hc, _, hd⟩, _⟩ := I.list (.inl (.inl h1))
          exact list_road I hF h2 rv ho hc hd c1 c2 hx.gd hu fin
      | tuple xs =>
        rcases h with h | ⟨ds, a, vs, e1, e2, h1, h2⟩
        · obtain ⟨a, vs, rfl, h1, h2⟩ := DR.tuple_s h
          cases ru
          obtain ⟨its, rv, ⟨o, ho, hc, n, hd⟩, _⟩ := I.tuple (hF.t h1)
          exact tup_road I hF h2 rv ho hc hd c1 c2 hx.gd hu fin
        · cases e1
      | _ => exact absurd (.inl rfl) hl
  · cases hg
end
end Dk
namespace Dk
open PySem PySem.Spec PyProof.Rows L2
def sizeM (m : Memo) : Nat := (((m[0]?).bind fun n => n[0]?).map fun a => a.1.length).getD 0
structure MemJ (m : Memo) : Prop where
  n0 : m ≠ []
  n1 : m.length ≤ 24
  node : ∀ n ∈ m, n ≠ [] ∧ n.length ≤ 20 ∧ ∀ a ∈ n, a.1.length = sizeM m ∧ (∀ x ∈ a.1, 0 ≤ x ∧ x ≤ 1000000) ∧ a.2.length ≤ 2 ∧ ∀ x ∈ a.2, x ≤ 30
  size : 1 ≤ sizeM m ∧ sizeM m ≤ 4
theorem MemJ.first {m : Memo} (M : MemJ m) : ∃ n a, m[0]? = some n ∧ n[0]? = some a ∧ a.1.length = sizeM m := by
  obtain ⟨n, hn⟩ : ∃ n, m[0]? = some n := ⟨_, List.getElem?_eq_getElem (List.length_pos_iff.mpr M.n0)⟩
  obtain ⟨g0, _, g2⟩ := M.node n (List.mem_of_getElem? hn)
  obtain ⟨a, ha⟩ : ∃ a, n[0]? = some a := ⟨_, List.getElem?_eq_getElem (List.length_pos_iff.mpr g0)⟩
  exact ⟨n, a, hn, ha, (g2 a (List.mem_of_getElem? ha)).1⟩
end Dk
namespace Dk
open PySem PySem.Spec PyProof.Rows L2
theorem MemJ.at {m : Memo} (M : MemJ m) {i : Int} (h0 : 0 ≤ i) (h1 : i < m.length) : ∃ n, m[i.toNat]? = some n ∧ n ≠ [] ∧ n.length ≤ 20 ∧ ∀ a ∈ n, a.1.length = sizeM m ∧ (∀ x ∈ a.1, 0 ≤ x ∧ x ≤ 1000000) ∧ a.2.length ≤ 2 ∧ ∀ x ∈ a.2, x ≤ 30 := by
  obtain ⟨n, hn⟩ : ∃ n, m[i.toNat]? = some n := ⟨_, List.getElem?_eq_getElem (by omega)⟩
  exact ⟨n, hn, M.node n (List.mem_of_getElem? hn)⟩
end Dk
namespace Dk
open PySem PySem.Spec PyProof.Rows L2
variable {S : Type} [StK S]
section
variable {X : Cx} {e a b c d : Expr} {ta : (AW S)} {pos : Pos} {k : Nat}
def dPar4 (i j l m : Nat) (ta : (AW S)) : (DS S) := fun E ρ => ta ρ fun ks ρ1 => gets (tmps ks) fun rs => match rs with
  | [r1, r2, r3, r4] => E.nx { ρ1 with sl := (((ρ1.sl.set i r1.sl).set j r2.sl).set l r3.sl).set m r4.sl }
  | _ => False
end
section
variable {E : (DE S)} {s0 : Sl} {l0 : List Sl} {pn : S} {aa : (AW S)} {i j l n : Nat}
@[simp↓] theorem z_dPar4 : dPar4 i j l n aa E ⟨s0 :: l0, pn⟩ = aa ⟨s0 :: l0, pn⟩ fun ks ρ1 => gets (tmps ks) fun rs => match rs with
  | [r1, r2, r3, r4] => E.nx ⟨(((ρ1.sl.set i r1.sl).set j r2.sl).set l r3.sl).set n r4.sl, ρ1.pn⟩
  | _ => False := rfl
end
end Dk
namespace Dk
open PySem PySem.Spec PyProof.Rows L2
structure Vz (W h : Nat) (d : D) : Prop where
  sh : d.showable = true
  w : wgt d ≤ W
  dp : d.depth ≤ h
theorem Vz.mono {W h W' h' : Nat} {d : D} (c : Vz W h d) (hw : W ≤ W') (hh : h ≤ h') : Vz W' h' d := ⟨c.sh, Nat.le_trans c.w hw, Nat.le_trans c.dp hh⟩
theorem Vw.vz {W h : Nat} {d : D} (c : Vw W h d) : Vz W h d := ⟨c.sh, c.w, c.dp⟩
theorem Vz.repr {W h : Nat} {d : D} (c : Vz W h d) (hw : W ≤ 16777216) (hh : h ≤ 100) : reprOkZ d := ⟨c.sh, Nat.le_trans (shown_le d) (Nat.le_trans c.w (by rw [sizeLine_eq]; exact hw)), Nat.le_trans c.dp hh⟩
def mkK (t : Bool) (xs : List D) : D := if t then .tuple xs else .list xs
theorem showK {t : Bool} {xs : List D} : (mkK t xs).showable = PyData.showableAll xs := by cases t <;> rfl
theorem wgtK {t : Bool} {xs : List D} : wgt (mkK t xs) = wgts xs + 3 := by cases t; exact wgt_list; exact wgt_tuple
theorem depthK {t : Bool} {xs : List D} : (mkK t xs).depth = PyData.depthAll xs + 1 := by cases t; exact depth_list; exact depth_tuple
theorem Vz.all {W h : Nat} {t : Bool} {xs : List D} (hs : ∀ d ∈ xs, d.showable = true) (hw : wgts xs + 3 ≤ W) (hh : ∀ d ∈ xs, d.depth + 1 ≤ h) (h1 : 1 ≤ h) : Vz W h (mkK t xs) := ⟨by rw [showK]; exact showA_iff.mpr hs, by rw [wgtK]; exact hw, by
  rw [depthK]
  have : PyData.depthAll xs ≤ h - 1 := depthAll_le.mpr fun d hd => by have := hh d hd; omega
  omega⟩
def vz (W h : Nat) (d : D) : Bool := d.showable && decide (wgt d ≤ W) && decide (d.depth ≤ h)
mutual
def bz : D → Bool
  | .none => true
  | .bool _ => false
  | .int i => decide (i.natAbs < 10 ^ 400)
  | .str _ => true
  | .list ds => decide (ds.length ≤ 3000) && bzA ds
  | .tuple ds => decide (ds.length ≤ 3000) && bzA ds
  | .dict _ => false
def bzA : List D → Bool
  | [] => true
  | d :: ds => bz d && bzA ds
end
theorem bz_k {t : Bool} {ds : List D} : bz (mkK t ds) = true ↔ ds.length ≤ 3000 ∧ bzA ds = true := by
  cases t <;> simp only [mkK, bz, Bool.and_eq_true, decide_eq_true_eq, Bool.false_eq_true, if_true, if_false]
theorem bzA_iff : ∀ {ds : List D}, bzA ds = true ↔ ∀ d ∈ ds, bz d = true
  | [] => by simp [bzA]
  | d :: ds => by
    rw [bzA, Bool.and_eq_true, bzA_iff]
    simp
theorem show_big {i : Int} (h : i.natAbs < 10 ^ 404) : (PyData.int i).showable = true := by
  show decide (i.natAbs.log2 < 1920) = true
  rw [decide_eq_true_eq]
  by_cases h0 : i.natAbs = 0
  · rw [h0]; decide
  · have : i.natAbs.log2 < 1400 := (Nat.log2_lt h0).mpr (Nat.lt_of_lt_of_le h (by decide +kernel))
    omega
mutual
theorem bz_show : ∀ {d : D}, bz d = true → d.showable = true
  | .none, _ => rfl
  | .bool b, _ => rfl
  | .int i, h => by
    rw [bz, decide_eq_true_eq] at h
    exact show_big (Nat.lt_of_lt_of_le h (by decide +kernel))
  | .str x, _ => rfl
  | .list ds, h => by
    rw [bz, Bool.and_eq_true] at h
    exact bzA_show h.2
  | .tuple ds, h => by
    rw [bz, Bool.and_eq_true] at h
    exact bzA_show h.2
  | .dict kvs, h => by rw [bz] at h; cases h
theorem bzA_show : ∀ {ds : List D}, bzA ds = true → PyData.showableAll ds = true
  | [], _ => rfl
  | d :: ds, h => by
    rw [bzA, Bool.and_eq_true] at h
    rw [PyData.showableAll, bz_show h.1, bzA_show h.2]
    rfl
end
@[simp] theorem eqOk_bool {a b : Bool} : eqOk (.bool a) (.bool b) = true := by cases a <;> cases b <;> rfl
@[simp] theorem eqv_bool {a b : Bool} : PyData.eqv (.bool a) (.bool b) = (a == b) := by cases a <;> cases b <;> rfl
end Dk
namespace Dk
open PySem PySem.Spec PyProof.Rows L2
structure Bm (c h : Nat) (d : D) : Prop where
  p : bz d = true
  w : wgt d ≤ c
  dp : d.depth ≤ h
theorem Bm.mono {c h c' h' : Nat} {d : D} (s : Bm c h d) (hc : c ≤ c') (hh : h ≤ h') : Bm c' h' d := ⟨s.p, Nat.le_trans s.w hc, Nat.le_trans s.dp hh⟩
theorem Bm.vz {c h : Nat} {d : D} (s : Bm c h d) : Vz c h d := ⟨bz_show s.p, s.w, s.dp⟩
theorem Bm.tup {c h L : Nat} {xs : List D} (hx : ∀ d ∈ xs, Bm c h d) (hl : xs.length ≤ L) (hL : L ≤ 3000) : Bm (L * (c + 2) + 3) (h + 1) (.tuple xs) := by
  refine ⟨(bz_k (t := true)).mpr ⟨by omega, bzA_iff.mpr fun d hd => (hx d hd).p⟩, ?_, ?_⟩
  · rw [wgt_tuple]
    have := wgts_le fun d hd => (hx d hd).w
    have := Nat.mul_le_mul_right (c + 2) hl
    omega
  · rw [depth_tuple]
    have := depthAll_le.mpr fun d hd => (hx d hd).dp
    omega
theorem Bm.int {i : Int} (h : i.natAbs < 1000000000000) : Bm 13 0 (.int i) := ⟨by rw [bz, decide_eq_true_eq]; exact Nat.lt_of_lt_of_le h (by decide +kernel), wgt_small h, Nat.le_refl _⟩
theorem Bm.ints {is : List Int} {L : Nat} (h : ∀ i ∈ is, i.natAbs < 1000000000000) (hl : is.length ≤ L) (hL : L ≤ 3000) : Bm (L * 15 + 3) 1 (.tuple (is.map .int)) := Bm.tup (c := 13) (h := 0) (fun d hd => by
  obtain ⟨i, hi, rfl⟩ := List.mem_map.mp hd
  exact Bm.int (h i hi)) (by rw [List.length_map]; exact hl) hL
theorem Bm.needs {ns : List Nat} (h : ∀ x ∈ ns, x < 1000) (hl : ns.length ≤ 2) : Bm 33 1 (.tuple (needsL ns)) := Bm.tup (c := 13) (h := 0) (L := 2) (fun d hd => by
  unfold needsL at hd
  obtain ⟨i, hi, rfl⟩ := List.mem_map.mp hd
  exact Bm.int (by have := h i hi; omega)) (by unfold needsL; rw [List.length_map]; exact hl) (by decide)
theorem Bm.alt {a : Alt} (h1 : a.1.length ≤ 4) (h2 : ∀ x ∈ a.1, 0 ≤ x ∧ x ≤ 1000000) (h3 : a.2.length ≤ 2) (h4 : ∀ x ∈ a.2, x < 1000) : Bm 133 2 (altD a) := Bm.tup (c := 63) (h := 1) (L := 2) (fun d hd => by
  simp only [List.mem_cons, List.not_mem_nil, or_false] at hd
  rcases hd with rfl | rfl
  · exact Bm.ints (L := 4) (fun i hi => by have := h2 i hi; omega) h1 (by decide)
  · exact (Bm.needs h4 h3).mono (by decide) (by decide)) (by simp) (by decide)
theorem Bm.node {n : List Alt} (hl : n.length ≤ 21) (h : ∀ a ∈ n, Bm 133 2 (altD a)) : Bm 2838 3 (nodeD n) := Bm.tup (c := 133) (h := 2) (L := 21) (fun d hd => by
  obtain ⟨a, ha, rfl⟩ := List.mem_map.mp hd
  exact h a ha) (by rw [List.length_map]; exact hl) (by decide)
theorem Bm.memo {m : Memo} (hl : m.length ≤ 24) (h : ∀ n ∈ m, Bm 2838 3 (nodeD n)) : Bm 68163 4 (memoD m) := Bm.tup (c := 2838) (h := 3) (L := 24) (fun d hd => by
  obtain ⟨a, ha, rfl⟩ := List.mem_map.mp hd
  exact h a ha) (by rw [List.length_map]; exact hl) (by decide)
theorem MemJ.altB {m : Memo} (M : MemJ m) {n : List Alt} (hn : n ∈ m) {a : Alt} (ha : a ∈ n) : Bm 133 2 (altD a) := by
  obtain ⟨_, _, g⟩ := M.node n hn
  obtain ⟨g1, g2, g3, g4⟩ := g a ha
  have := M.size
  exact Bm.alt (by omega) g2 g3 (fun x hx => by have := g4 x hx; omega)
theorem MemJ.bm {m : Memo} (M : MemJ m) : Bm 68163 4 (memoD m) := Bm.memo M.n1 fun n hn => Bm.node (by have := (M.node n hn).2.1; omega) fun a ha => M.altB hn ha
def AltB (size i : Nat) (a : Alt) : Prop := a.1.length = size ∧ (∀ x ∈ a.1, 0 ≤ x ∧ x ≤ 29) ∧ a.2.length ≤ 2 ∧ ∀ x ∈ a.2, x < i
def RenN (size i : Nat) (n n' : List Alt) : Prop := n.length ≤ n'.length ∧ n'.length ≤ n.length + 1 ∧ (∀ (j : Nat) a a', n[j]? = some a → n'[j]? = some a' → a'.2 = a.2 ∧ (a'.1 = a.1 ∨ (a'.1.length = size ∧ ∀ x ∈ a'.1, 0 ≤ x ∧ x ≤ 29))) ∧ ∀ (j : Nat) a', n.length ≤ j → n'[j]? = some a' → AltB size i a'
inductive ChgT (m : Memo) : D → Prop
  | amt (i j r : Nat) (x : Int) (n : List Alt) : m[i]? = some n → j < n.length → r < sizeM m → 0 ≤ x → x ≤ 1000000 → ChgT m (.tuple [.str ("amount" : Str), .int i, .int j, .int r, .int x])
  | add (i : Nat) (a : Alt) : i < m.length → AltB (sizeM m) i a → ChgT m (.tuple [.str ("add" : Str), .int i, altD a])
  | memo (m' : Memo) : m'.length = m.length → (∀ (i : Nat) n n', m[i]? = some n → m'[i]? = some n' → RenN (sizeM m) i n n') → ChgT m (.tuple [.str ("memo" : Str), memoD m'])
theorem Bm.str {x : Str} {c : Nat} (h : (PyData.str x).shown.length ≤ c) : Bm c 0 (.str x) := ⟨rfl, by rw [wgt]; exact h, Nat.le_refl _⟩
theorem RenN.bm {m : Memo} (M : MemJ m) {i : Nat} {n n' : List Alt} (hn : m[i]? = some n) (R : RenN (sizeM m) i n n') : Bm 2838 3 (nodeD n') := by
  obtain ⟨r1, r2, r3, r4⟩ := R
  have hmem := List.mem_of_getElem? hn
  obtain ⟨g0, g1, g2⟩ := M.node n hmem
  have hil := (List.getElem?_eq_some_iff.mp hn).1
  have := M.n1
  have := M.size
  refine Bm.node (by omega) fun a' ha' => ?_
  obtain ⟨j, hj⟩ := List.mem_iff_getElem?.mp ha'
  by_cases hjl : j < n.length
  · obtain ⟨a, ha⟩ : ∃ a, n[j]? = some a := ⟨_, List.getElem?_eq_getElem hjl⟩
    obtain ⟨e2, e1⟩ := r3 j a a' ha hj
    obtain ⟨k1, k2, k3, k4⟩ := g2 a (List.mem_of_getElem? ha)
    rcases e1 with e1 | ⟨e1, e3⟩
    · exact Bm.alt (by rw [e1]; omega) (by rw [e1]; exact k2) (by rw [e2]; exact k3) (by rw [e2]; exact fun x hx => by have := k4 x hx; omega)
    · exact Bm.alt (by omega) (fun x hx => by have := e3 x hx; omega) (by rw [e2]; exact k3) (by rw [e2]; exact fun x hx => by have := k4 x hx; omega)
  · obtain ⟨k1, k2, k3, k4⟩ := r4 j a' (by omega) hj
    exact Bm.alt (by omega) (fun x hx => by have := k2 x hx; omega) k3 (fun x hx => by have := k4 x hx; omega)
theorem ChgT.bm {m : Memo} (M : MemJ m) {d : D} (h : ChgT m d) : Bm 136333 5 d ∧ ∃ x r, d = .tuple (.str x :: r) := by
  have hm := M.n1
  have hs := M.size
  cases h with
  | amt i j r x n hn hj hr x0 x1 =>
    have hil := (List.getElem?_eq_some_iff.mp hn).1
    have := (M.node n (List.mem_of_getElem? hn)).2.1
    refine ⟨(Bm.tup (c := 13) (h := 0) (L := 5) (fun d hd => ?_) (by simp) (by decide)).mono (by decide) (by decide), _, _, rfl⟩
    simp only [List.mem_cons, List.not_mem_nil, or_false] at hd
    rcases hd with rfl | rfl | rfl | rfl | rfl
    · exact Bm.str (by decide +kernel)
    all_goals exact Bm.int (by omega)
  | add i a hi ha =>
    obtain ⟨k1, k2, k3, k4⟩ := ha
    refine ⟨(Bm.tup (c := 133) (h := 2) (L := 3) (fun d hd => ?_) (by simp) (by decide)).mono (by decide) (by decide), _, _, rfl⟩
    simp only [List.mem_cons, List.not_mem_nil, or_false] at hd
    rcases hd with rfl | rfl | rfl
    · exact Bm.mono (Bm.str (c := 13) (by decide +kernel)) (by decide) (by decide)
    · exact (Bm.int (by omega)).mono (by decide) (by decide)
    · exact Bm.alt (by omega) (fun x hx => by have := k2 x hx; omega) k3 (fun x hx => by have := k4 x hx; omega)
  | memo m' hl hr =>
    refine ⟨(Bm.tup (c := 68163) (h := 4) (L := 2) (fun d hd => ?_) (by simp) (by decide)).mono (by decide) (by decide), _, _, rfl⟩
    simp only [List.mem_cons, List.not_mem_nil, or_false] at hd
    rcases hd with rfl | rfl
    · exact Bm.mono (Bm.str (c := 13) (by decide +kernel)) (by decide) (by decide)
    · refine Bm.memo (by omega) fun n' hn' => ?_
      obtain ⟨i, hi⟩ := List.mem_iff_getElem?.mp hn'
      obtain ⟨n, hn⟩ : ∃ n, m[i]? = some n := ⟨_, List.getElem?_eq_getElem (by have := (List.getElem?_eq_some_iff.mp hi).1; omega)⟩
      exact (hr i n n' hn hi).bm M hn
section
variable {t u v r : DS} {E : DE} {ρ : En}
end
end Dk
namespace Dk
open PySem PySem.Spec PyProof.Rows L2
variable {S : Type} [StK S]
def leD0 (a b : D) : Bool := !PySem.W.dataLt b a
def sortD (ds : List D) : List D := ds.mergeSort leD0
def sortOk (ds : List D) : Prop := PySem.W.AllAlike ds ∧ PySem.W.Sortable ds ∧ ∀ d ∈ ds, d.depth ≤ 64
open Classical in
noncomputable def sortedD : List D → Option Rs
  | [.list ds] => if sortOk ds then some (.own (sortD ds)) else none
  | _ => none
open Classical in
@[simp↓] theorem g_sortedL {xs : List D} {k : Rs → Prop} : gets (sortedD [.list xs]) k = (sortOk xs ∧ k (.own (sortD xs))) := by unfold sortedD; exact g_ite
theorem each_zip {K : Fg} {F : Hp} {R : Value → D × V → Prop} (hR : ∀ v (d : D) (w : V), DR K F d w → RelV w v → R v (d, w)) : ∀ {ds : List D} {ws : List V} {vs : List Value}, DRs K F ds ws → Vals ws vs → PySem.W.EachIs R vs (ds.zip ws)
  | [], ws, vs, h, r => by
    rw [DRs.nil_.mp h] at r
    cases r
    exact .nil
  | d :: ds, ws, vs, h, r => by
    obtain ⟨w, wr, rfl, h2, h3⟩ := DRs.cons_.mp h
    cases r with
    | cons r1 r2 => exact .cons (hR _ _ _ h2 r1) (each_zip hR h3 r2)
theorem zip_fst {K : Fg} {F : Hp} : ∀ {ds : List D} {ws : List V}, DRs K F ds ws → (ds.zip ws).map Prod.fst = ds
  | [], ws, h => rfl
  | d :: ds, ws, h => by
    obtain ⟨w, wr, rfl, h2, h3⟩ := DRs.cons_.mp h
    rw [List.zip_cons_cons, List.map_cons, zip_fst h3]
theorem each_back {K : Fg} {F : Hp} : ∀ {vs : List Value} {bs : List (D × V)}, PySem.W.EachIs (fun v b => DR K F b.1 b.2 ∧ RelV b.2 v) vs bs → DRs K F (bs.map Prod.fst) (bs.map Prod.snd) ∧ Vals (bs.map Prod.snd) vs
  | _, _, .nil => ⟨.nil, .nil⟩
  | _, _, .cons h r => ⟨.cons h.1 (each_back r).1, .cons h.2 (each_back r).2⟩
open Classical in
theorem cd_sorted {X : Cx} {k : Nat} (hx : XO X k) : CallD X (.builtin "sorted") sortedD := by
  intro pins s σ H xs us Q I rv ⟨F, ds, r, ⟨hz0, hF⟩, hd, hg, q⟩
  unfold sortedD at hg
  split at hg
  · obtain ⟨⟨c1, c2, c3⟩, rfl⟩ := some_ite hg
    rename_i ds
    obtain ⟨v, rfl, h⟩ := hd.one
    obtain ⟨a, ws, rfl, ha, ra⟩ := h.list hF
    obtain ⟨its, rvs, hl, hz⟩ := I.list (.inl (.inl ha))
    rw [Vals.ref1 rv]
    have e := each_zip (K := X.K) (F := F) (R := fun v b => DR X.K F b.1 b.2 ∧ RelV b.2 v) (fun v d w h1 h2 => ⟨h1, h2⟩) ra rvs
    have er := each_zip (K := X.K) (F := F) (R := fun v b => ∃ as, Reads s.heap v (Prod.fst b) as) (fun v d w h1 h2 => by
      obtain ⟨as, r, _⟩ := DR.reads I hF d w v h1 h2
      exact ⟨as, r⟩) ra rvs
    have ef := zip_fst ra
    have hlen : (ds.zip ws).length = ds.length := by rw [← List.length_map (f := Prod.fst), ef]
    have hun := hx.room.un
    refine PySem.W.sorted_data (enc := Prod.fst) hl.isList e er (by rw [ef]; exact c1) (by rw [ef]; exact c2) (by rw [hlen, ← ra.len]; exact hz) (fun b hb => ?_) fun out ho eo => ?_
    · have := c3 b.1 (by rw [← ef]; exact List.mem_map.mpr ⟨b, hb, rfl⟩)
      omega
    · obtain ⟨ep, he'⟩ := PyProof.Rows.sortedAll_at s.heap its out.toArray
      obtain ⟨k1, k2⟩ := each_back eo
      have em : ((ds.zip ws).mergeSort (PySem.W.dataLe false Prod.fst)).map Prod.fst = sortD ds := by
        unfold sortD
        have e9 := List.map_mergeSort (r := PySem.W.dataLe false Prod.fst) (s := leD0) (f := Prod.fst) (l := ds.zip ws) (fun a _ b _ => rfl)
        rw [e9, ef]
      rw [em] at k1
      have hl2 : (((ds.zip ws).mergeSort (PySem.W.dataLe false Prod.fst)).map Prod.snd).length ≤ sizeLine := by
        rw [List.length_map, List.length_mergeSort, hlen, ← ra.len]; exact hz
      exact ⟨.ref _, upd H (s.heap.objs.size + 1) (.lst (((ds.zip ws).mergeSort (PySem.W.dataLe false Prod.fst)).map Prod.snd)), I.laid (t' := s.toks) (fun _ _ => PyProof.Rows.sortedAll_old) (Nat.le_succ _) ⟨hl2, out, ep, k2, he'⟩, rfl, q _ _ k1 hl2 (I.hok.fresh (Nat.le_succ _))⟩
  · cases hg
section
variable {X : Cx} {e a b c : Expr} {te : (DW S)} {ta : (AW S)} {pos p p2 p1 : Pos} {k : Nat} {t u : (OW S)}
def dAugC (i : Nat) (C : Int → Int → Prop) (f : Int → Int → Int) (t : (DW S)) : (DS S) := fun E ρ => gets (((ρ.sl[i]?).bind Sl.rd).bind D.int?) fun a => t ρ fun r ρ1 => gets (D.int? r.d) fun b => C a b ∧ E.nx { ρ1 with sl := ρ1.sl.set i (.val (.int (f a b))) }
def insD (xs : List D) (i : Int) (d : D) : List D := xs.take i.toNat ++ d :: xs.drop i.toNat
def insA : List D → Option (Int × D)
  | [.int z, d] => some (z, d)
  | _ => none
def dInsert (i : Nat) (ta : (AW S)) : (DW S) := fun ρ P => (own? ρ.sl i).isSome = true ∧ ta ρ fun ks ρ1 => gets (vals ks) fun ds => gets (insA ds) fun p => gets (own? ρ1.sl i) fun xs => (xs.length < sizeLine ∧ 0 ≤ p.1 ∧ p.1 ≤ 1000000000) ∧ P (.val .none) { ρ1 with sl := ρ1.sl.set i (.own (insD xs p.1 p.2)) }
end
section
variable {E : (DE S)} {s0 : Sl} {l0 : List Sl} {pn : S} {te : (DW S)} {i : Nat} {C : Int → Int → Prop} {f : Int → Int → Int}
@[simp↓] theorem z_dAugC : dAugC i C f te E ⟨s0 :: l0, pn⟩ = gets ((rdS (s0 :: l0) i).bind D.int?) fun a => te ⟨s0 :: l0, pn⟩ fun r ρ1 => gets (D.int? r.d) fun b => C a b ∧ E.nx ⟨ρ1.sl.set i (.val (.int (f a b))), ρ1.pn⟩ := by rw [← rdS_eq]; rfl
@[simp↓] theorem z_dInsert {aa : (AW S)} {P : Rs → (En S) → Prop} : dInsert i aa ⟨s0 :: l0, pn⟩ P = ((own? (s0 :: l0) i).isSome = true ∧ aa ⟨s0 :: l0, pn⟩ fun ks ρ1 => gets (vals ks) fun ds => gets (insA ds) fun p => gets (own? ρ1.sl i) fun xs => (xs.length < sizeLine ∧ 0 ≤ p.1 ∧ p.1 ≤ 1000000000) ∧ P (.val .none) ⟨ρ1.sl.set i (.own (insD xs p.1 p.2)), ρ1.pn⟩) := rfl
@[simp↓] theorem g_insA {z : Int} {d : D} {k : Int × D → Prop} : gets (insA [.int z, d]) k = k (z, d) := rfl
end
end Dk
namespace Dk
open PySem PySem.Spec PyProof.Rows L2
theorem dlt_trans {a b c : D} (h : PySem.W.dataLt a b = true) (g : PySem.W.dataLt b c = true) : PySem.W.dataLt a c = true := PyProof.Rows.lex_trans _ _ _ h g
theorem dlt_irr (a : D) : PySem.W.dataLt a a = false := PyProof.Rows.lex_irrefl _
theorem dlt_asym {a b : D} (h : PySem.W.dataLt a b = true) : PySem.W.dataLt b a = false := by
  cases e : PySem.W.dataLt b a with
  | false => rfl
  | true => have := dlt_trans h e; rw [dlt_irr] at this; cases this
end Dk
namespace Dk
open PySem PySem.Spec PyProof.Rows L2
end Dk
namespace Dk
open PySem PySem.Spec PyProof.Rows L2
end Dk
namespace Dk
open PySem PySem.Spec PyProof.Rows L2
theorem Fine.again {m : Memo} {size most : Nat} {B : Int} (F : Fine size most B m) {n : List Alt} (hl : m[m.length - 1]? = some n) : Fine size most B (m ++ [n]) := by
  obtain ⟨g0, g1, g2⟩ := F.node _ n hl
  have hlt := (List.getElem?_eq_some_iff.mp hl).1
  have c1 := dp_get (g := cntN) cnt_loc hl fun a ha x hx => (g2 a ha).2.2 x hx
  have c2 := dp_get (g := partsN) parts_loc hl fun a ha x hx => (g2 a ha).2.2 x hx
  exact F.snoc g0 g1 (fun a ha => (g2 a ha).mono (by omega)) (F.cnt _ (List.mem_of_getElem? c1)) (F.prt _ (List.mem_of_getElem? c2))
theorem PlOk.again {m : Memo} {n : List Alt} (hm : Good m) (hl : m[m.length - 1]? = some n) : ∀ {node : Nat} {p : Pl}, PlOk m node p → PlOk (m ++ [n]) node p := by
  intro node p h
  induction h with
  | mk hn ha hlen hps ih =>
    refine .mk (by rw [List.getElem?_append_left (List.getElem?_eq_some_iff.mp hn).1]; exact hn) ha hlen fun j nd q h1 h2 => ih j nd q h1 h2
theorem PlOk.last {m : Memo} {n : List Alt} (hm : Good m) (hl : m[m.length - 1]? = some n) {p : Pl} (h : PlOk m (m.length - 1) p) : PlOk (m ++ [n]) m.length p := by
  cases h with
  | mk hn ha hlen hps =>
    rw [hl] at hn
    cases hn
    refine .mk (by simp) ha hlen fun j nd q h1 h2 => (hps j nd q h1 h2).again hm hl
end Dk
namespace Dk
open PySem PySem.Spec PyProof.Rows L2
structure Ob where
  C : Addr
  N : List Str
  fs : List Sl
structure Gm where
  R : Fg → Hp → HO → Prop
  mono : ∀ {K : Fg} {F G : Hp} {u : HO}, R K F u → Le F G → R K G u
  lst : ∀ {K : Fg} {F : Hp} {xs : List V}, ¬ R K F (.lst xs)
  tup : ∀ {K : Fg} {F : Hp} {xs : List V}, ¬ R K F (.tup xs)
  ins : ∀ {K : Fg} {F : Hp} {C dx : Addr} {fs : List (Str × V)}, ¬ R K F (.ins C dx fs)
  frz : ∀ {K : Fg} {F : Hp} {o : Obj} {u : HO}, ¬ R K F (.frz o u)
inductive Dc where
  | k (kvs : List (Key × D)) | o (g : Gm)
structure Sto where
  pen : Option Pen
  ob : Addr → Option Ob
  ls : Addr → Option (List D)
  dc : Addr → Option Dc
def Sto.putO (s : Sto) (a : Addr) (o : Ob) : Sto := { s with ob := fun b => if b = a then some o else s.ob b }
def Sto.putL (s : Sto) (a : Addr) (xs : List D) : Sto := { s with ls := fun b => if b = a then some xs else s.ls b }
def Sto.putD (s : Sto) (a : Addr) (c : Dc) : Sto := { s with dc := fun b => if b = a then some c else s.dc b }
def Sto.only (p : Option Pen) : Sto := ⟨p, fun _ => none, fun _ => none, fun _ => none⟩
def PvR {κ : Type} (K : Fg) (F : Hp) (kvs : List (κ × D)) (vs : List (κ × V)) : Prop := vs.map (·.1) = kvs.map (·.1) ∧ DRs K F (kvs.map (·.2)) (vs.map (·.2))
theorem PvR.mono {κ : Type} {K : Fg} {F G : Hp} {kvs : List (κ × D)} {vs : List (κ × V)} (h : PvR K F kvs vs) (e : Le F G) : PvR K G kvs vs := ⟨h.1, DRs.mono e _ _ h.2⟩
def DcR (K : Fg) (F : Hp) : Dc → HO → Prop
  | .k kvs, u => ∃ vs, u = .dK vs ∧ PvR K F kvs vs
  | .o g, u => g.R K F u
theorem DcR.mono {K : Fg} {F G : Hp} {c : Dc} {u : HO} (h : DcR K F c u) (e : Le F G) : DcR K G c u := by
  cases c with
  | k kvs => exact h.imp fun vs q => ⟨q.1, q.2.mono e⟩
  | o g => exact g.mono h e
theorem DcR.nl {K : Fg} {F : Hp} {c : Dc} {xs : List V} (h : DcR K F c (.lst xs)) : False := by
  cases c with
  | k kvs => obtain ⟨vs, e, _⟩ := h; cases e
  | o g => exact g.lst h
def FldR (K : Fg) (F : Hp) : Sl → Option V → Prop
  | .un, o => o = none
  | .val d, o => ∃ v, o = some v ∧ DR K F d v
  | .ref a, o => o = some (.ref a)
  | _, _ => False
theorem FldR.mono {K : Fg} {F G : Hp} {s : Sl} {o : Option V} (h : FldR K F s o) (e : Le F G) : FldR K G s o := by
  cases s with
  | un => exact h
  | val d => exact h.imp fun v q => ⟨q.1, q.2.mono e⟩
  | ref a => exact h
  | own xs => exact h
  | bor xs => exact h
  | pen => exact h
  | scr ns => exact h
def isUn : Sl → Bool
  | .un => true
  | _ => false
def cntF (fs : List Sl) : Nat := (fs.filter fun s => !isUn s).length
structure ObR (K : Fg) (F : Hp) (o : Ob) (fvs : List (Str × V)) : Prop where
  len : o.fs.length = o.N.length
  nd : o.N.Nodup
  sz : o.N.length < 900
  cnt : fvs.length ≤ cntF o.fs
  fld : ∀ (i : Nat) (s : Sl) (x : Str), o.fs[i]? = some s → o.N[i]? = some x → FldR K F s (fvs.lookup x)
  out : ∀ x : Str, x ∉ o.N → fvs.lookup x = none
theorem ObR.mono {K : Fg} {F G : Hp} {o : Ob} {fvs : List (Str × V)} (h : ObR K F o fvs) (e : Le F G) : ObR K G o fvs := ⟨h.len, h.nd, h.sz, h.cnt, fun i s x h1 h2 => (h.fld i s x h1 h2).mono e, h.out⟩
structure StoR (K : Fg) (pa : Option Addr) (H F : Hp) (s : Sto) (T : Addr → Prop) : Prop where
  pen : PenR K F H pa s.pen
  ob : ∀ a o, s.ob a = some o → ∃ dx fvs, H a = some (.ins o.C dx fvs) ∧ ObR K F o fvs
  ls : ∀ b xs, s.ls b = some xs → ∃ vs, H b = some (.lst vs) ∧ DRs K F xs vs
  dc : ∀ b c, s.dc b = some c → ∃ u, H b = some u ∧ DcR K F c u
  ap : ∀ b, pa = some b → s.ob b = none ∧ s.ls b = none ∧ s.dc b = none
  t : ∀ b, T b ↔ (pa = some b ∨ s.ob b ≠ none ∨ s.ls b ≠ none ∨ s.dc b ≠ none)
theorem StoR.frame {K : Fg} {pa : Option Addr} {H F H' F' : Hp} {s : Sto} {T : Addr → Prop} (h : StoR K pa H F s T) (hH : ∀ b, T b → H' b = H b) (hF : Le F F') (hf : ∀ b, T b → F' b = none) : StoR K pa H' F' s T :=
  ⟨h.pen.frame (fun b e => hH b ((h.t b).mpr (.inl e))) hF fun b e => hf b ((h.t b).mpr (.inl e)),
   fun a o e => by
    obtain ⟨dx, fvs, h1, h2⟩ := h.ob a o e
    exact ⟨dx, fvs, by rw [hH a ((h.t a).mpr (.inr (.inl (by rw [e]; exact nofun))))]; exact h1, h2.mono hF⟩,
   fun b xs e => by
    obtain ⟨vs, h1, h2⟩ := h.ls b xs e
    exact ⟨vs, by rw [hH b ((h.t b).mpr (.inr (.inr (.inl (by rw [e]; exact nofun)))))]; exact h1, h2.mono hF⟩,
   fun b c e => by
    obtain ⟨u, h1, h2⟩ := h.dc b c e
    exact ⟨u, by rw [hH b ((h.t b).mpr (.inr (.inr (.inr (by rw [e]; exact nofun)))))]; exact h1, h2.mono hF⟩,
   h.ap, h.t⟩
instance stSto : StK Sto where
  look := fun s b => s.ls b
  tag := fun _ => none
  R := fun K pa H F s T => StoR K pa H F s T
  frame := fun h hH hF hf => h.frame hH hF hf
  seen := fun h e => h.ls _ _ e
instance noSto : NoTag Sto := ⟨fun _ => rfl⟩
instance penSto : PenK Sto where
  toStK := stSto
  get := fun s => s.pen
  set := fun p s => { s with pen := p }
  tagS := fun _ _ => rfl
  pen := fun h => ⟨h.pen, fun b e => (h.t b).mpr (.inl e)⟩
  apart := fun {K pa H F s T b xs} h e z => by
    have := (StoR.ap h b z).2.1
    have e : s.ls b = some xs := e
    rw [this] at e
    cases e
  up := fun {K pa H F H' F' s T pn} h hH hF hf hp => by
    have h : StoR K pa H F s T := h
    refine (⟨hp, fun a o e => ?_, fun b xs e => ?_, fun b c e => ?_, h.ap, h.t⟩ : StoR K pa H' F' { s with pen := pn } T)
    · obtain ⟨dx, fvs, h1, h2⟩ := h.ob a o e
      refine ⟨dx, fvs, ?_, h2.mono hF⟩
      rw [hH a ((h.t a).mpr (.inr (.inl (by rw [show s.ob a = some o from e]; exact nofun)))) fun z => by
        have := (h.ap a z).1
        rw [show s.ob a = some o from e] at this
        cases this]
      exact h1
    · obtain ⟨vs, h1, h2⟩ := h.ls b xs e
      refine ⟨vs, ?_, h2.mono hF⟩
      rw [hH b ((h.t b).mpr (.inr (.inr (.inl (by rw [show s.ls b = some xs from e]; exact nofun))))) fun z => by
        have := (h.ap b z).2.1
        rw [show s.ls b = some xs from e] at this
        cases this]
      exact h1
    · obtain ⟨u, h1, h2⟩ := h.dc b c e
      refine ⟨u, ?_, h2.mono hF⟩
      rw [hH b ((h.t b).mpr (.inr (.inr (.inr (by rw [show s.dc b = some c from e]; exact nofun))))) fun z => by
        have := (h.ap b z).2.2
        rw [show s.dc b = some c from e] at this
        cases this]
      exact h1
section
variable {K : Fg} {B : Bs} {pa : Option Addr} {zs : List (Option V)} {H F H' : Hp} {ws : List Sl} {pn pn' : Sto}
theorem Rel.stoR (R : Rel K B pa zs H F ws pn) : ∃ T, StR K B pa zs H F ws pn T ∧ StoR K pa H F pn T := by
  obtain ⟨T, t⟩ := R.st
  exact ⟨T, t, t.r⟩
theorem Rel.reSto (R : Rel K B pa zs H F ws pn) {T T' : Addr → Prop} (t : StR K B pa zs H F ws pn T) (hH : ∀ b u, H b = some u → ¬ T b → H' b = some u) (hF : Le F H') (hr : StoR K pa H' F pn' T')
    (hT : ∀ b, T' b → T b ∨ (F b = none ∧ B.H0 b = none ∧ ∀ (i : Nat) (xs : List D), ws[i]? = some (.own xs) → zs[i]? ≠ some (some (.ref b)))) (hn : ∀ b, T' b → H' b ≠ none) (hp : ∀ b, H b ≠ none → H' b ≠ none) (hz : Szs H') : Rel K B pa zs H' F ws pn' := by
  have hown : ∀ (i : Nat) (xs : List D) (a : Addr), ws[i]? = some (.own xs) → zs[i]? = some (some (.ref a)) → H' a = H a ∧ F a = none ∧ ¬ T a := fun i xs a e1 e2 => by
    obtain ⟨o, g1, b, vs, g2, g3, _, g4, _⟩ := R.sl i _ e1
    rw [e2] at g1
    cases g1
    cases g2
    have hT' := t.ap i xs a e1 e2
    exact ⟨by rw [hH a _ g3 hT', g3], g4, hT'⟩
  refine ⟨R.len, hF, fun b u e n => ?_, R.f0, R.fr, fun i s e => ?_, R.inj, ⟨T', hr, hn, fun b hb => ?_, fun b hb => ?_, fun i xs a e1 e2 hb => ?_⟩, fun b hb => hp b (R.pal b hb), hz, fun r e => nomatch e⟩
  · exact hH b u (R.base b u e n) (Rel.notT t (by rw [e]; exact nofun) n)
  · obtain ⟨o, e1, e2⟩ := R.sl i s e
    refine ⟨o, e1, e2.grow (fun xs a h1 h2 => ?_) (Le.refl _)⟩
    subst h1 h2
    exact ⟨(hown i xs a e e1).1, (hown i xs a e e1).2.1⟩
  · rcases hT b hb with z | z
    · exact t.fn b z
    · exact z.1
  · rcases hT b hb with z | z
    · exact t.bs b z
    · exact .inl z.2.1
  · rcases hT a hb with z | z
    · exact (hown i xs a e1 e2).2.2 z
    · exact z.2.2 i xs e1 e2
end
theorem putF_len {x : Str} {v : V} : ∀ {fs : List (Str × V)}, fs.lookup x ≠ none → (putF x v fs).length = fs.length
  | [], h => absurd rfl h
  | (g, y) :: r, h => by
    unfold putF
    by_cases e : g = x
    · rw [if_pos e]; rfl
    · rw [if_neg e, List.length_cons, List.length_cons, putF_len (fs := r)]
      rw [List.lookup_cons] at h
      have : (x == g) = false := beq_eq_false_iff_ne.mpr fun z => e z.symm
      rw [this] at h
      exact h
theorem cntF_set : ∀ {fs : List Sl} {i : Nat} {s t : Sl}, fs[i]? = some s → isUn t = false → cntF (fs.set i t) = cntF fs + (if isUn s then 1 else 0)
  | [], i, s, t, h, _ => by simp at h
  | f :: fs, 0, s, t, h, ht => by
    simp at h
    subst h
    unfold cntF
    rw [List.set_cons_zero, List.filter_cons, List.filter_cons]
    cases hf : isUn f <;> simp [ht]
  | f :: fs, i + 1, s, t, h, ht => by
    have ih := cntF_set (fs := fs) (i := i) (s := s) (t := t) (by simpa using h) ht
    unfold cntF at ih ⊢
    rw [List.set_cons_succ, List.filter_cons, List.filter_cons]
    cases hf : isUn f
    · simp only [Bool.not_false, if_true, List.length_cons, ih]
      omega
    · simpa using ih
theorem ObR.put {K : Fg} {F : Hp} {o : Ob} {fvs : List (Str × V)} {i : Nat} {x : Str} {s : Sl} {v : V} (h : ObR K F o fvs) (hx : o.N[i]? = some x) (hs : FldR K F s (some v)) : ObR K F { o with fs := o.fs.set i s } (putF x v fvs) := by
  have hi := (List.getElem?_eq_some_iff.mp hx).1
  have hun : isUn s = false := by
    cases s with
    | un => cases hs
    | _ => rfl
  obtain ⟨s0, hs0⟩ : ∃ s0, o.fs[i]? = some s0 := ⟨_, List.getElem?_eq_getElem (by rw [h.len]; exact hi)⟩
  have f0 := h.fld i s0 x hs0 hx
  refine ⟨by simp [h.len], h.nd, h.sz, ?_, fun j t y h1 h2 => ?_, fun y hy => ?_⟩
  · show (putF x v fvs).length ≤ cntF (o.fs.set i s)
    rw [cntF_set hs0 hun]
    have hc := h.cnt
    by_cases e : fvs.lookup x = none
    · have hu : isUn s0 = true := by
        rw [e] at f0
        cases s0 with
        | un => rfl
        | val d => obtain ⟨v, z, _⟩ := f0; cases z
        | ref a => cases f0
        | _ => exact f0.elim
      rw [hu, if_pos rfl]
      have := length_putF x v fvs
      omega
    · rw [putF_len e]
      omega
  · rw [lookup_putF]
    by_cases e : j = i
    · subst e
      have h1 : (o.fs.set j s)[j]? = some t := h1
      rw [List.getElem?_set_self (by rw [h.len]; exact hi)] at h1
      cases h1
      rw [hx] at h2
      cases h2
      rw [if_pos rfl]
      exact hs
    · have h1 : (o.fs.set i s)[j]? = some t := h1
      rw [List.getElem?_set_ne (Ne.symm e)] at h1
      have hne : y ≠ x := fun z => by
        subst z
        have hj := (List.getElem?_eq_some_iff.mp h2).1
        exact e ((List.getElem?_inj hj h.nd).mp (h2.trans hx.symm))
      rw [if_neg hne]
      exact h.fld j t y h1 h2
  · rw [lookup_putF, if_neg fun z => hy (by rw [z]; exact List.mem_of_getElem? hx)]
    exact h.out y hy
end Dk
namespace Dk
open PySem PySem.Spec PyProof.Rows L2
def refS (l : List Sl) (i : Nat) : Option Addr := match l[i]? with
  | some (.ref a) => some a
  | _ => none
def fsO (s : Sto) (C : Addr) (N : List Str) (a : Addr) : Option (List Sl) := (s.ob a).bind fun o => if o.C = C ∧ o.N = N then some o.fs else none
theorem fsO_of {s : Sto} {C : Addr} {N : List Str} {a : Addr} {fs : List Sl} (h : s.ob a = some ⟨C, N, fs⟩) : fsO s C N a = some fs := by
  unfold fsO
  rw [h, Option.bind_some, if_pos ⟨rfl, rfl⟩]
def oAttr (i : Nat) (C : Addr) (N : List Str) (j : Nat) : OW Sto := fun ρ P => gets (refS ρ.sl i) fun a => gets (fsO ρ.pn C N a) fun fs => match fs[j]? with
  | some (.val d) => P (.tmp (.val d)) ρ
  | some (.ref b) => P (.fb b) ρ
  | _ => False
def dAttr (i : Nat) (C : Addr) (N : List Str) (j : Nat) : DW Sto := fun ρ P => gets (refS ρ.sl i) fun a => gets (fsO ρ.pn C N a) fun fs => match fs[j]? with
  | some (.val d) => P (.val d) ρ
  | _ => False
section
variable {K : Fg} {B : Bs} {pa : Option Addr} {σ : L2.St} {τ : List (Option V)} {H F : Hp} {ρ : En Sto} {θ : List Sl}
end
section
variable {X : Cx} {pos p1 p2 p3 : Pos} {C : Addr} {N : List Str} {x y : Str} {k : Nat} {te : DW Sto} {tb : OW Sto} {e b : Expr}
def dSetF (i : Nat) (C : Addr) (N : List Str) (j : Nat) (te : DW Sto) : DS Sto := fun E ρ => te ρ fun r ρ1 => gets (refS ρ1.sl i) fun a => gets (fsO ρ1.pn C N a) fun fs => match r with
  | .val d => E.nx ⟨ρ1.sl, ρ1.pn.putO a ⟨C, N, fs.set j (.val d)⟩⟩
  | .own xs => ∀ b, b ≠ a → ρ1.pn.ls b = none → ρ1.pn.ob b = none → ρ1.pn.dc b = none → E.nx ⟨ρ1.sl, (ρ1.pn.putL b xs).putO a ⟨C, N, fs.set j (.ref b)⟩⟩
end
end Dk
namespace Dk
open PySem PySem.Spec PyProof.Rows L2
def recvA (ρ : List Sl) : Tk → Option Addr
  | .fb a => some a
  | .slot i => refS ρ i
  | _ => none
def dMeth (to : OW Sto) (C : Addr) (N : List Str) (n : Nat) (dsp : DSp Sto) (ta : AW Sto) : DW Sto := fun ρ P => to ρ fun k ρ0 => gets (recvA ρ0.sl k) fun a => (fsO ρ0.pn C N a).isSome = true ∧ ta ρ0 fun ks ρ1 => gets (toArgs ρ1 ks) fun as => as.length + 1 = n ∧ dsp (.ref a :: as) ρ1.pn fun d pn' => P (.val d) ⟨ρ1.sl, pn'⟩
section
variable {K : Fg} {B : Bs} {pa : Option Addr} {σ : L2.St} {τ : List (Option V)} {H F : Hp} {ρ : En Sto} {θ : List Sl}
end
section
variable {X : Cx} {CX : CXT} {k : Nat} {f C : Addr} {fd : FuncData} {ps : List Str} {sp : Sp} {x m : Str} {p pos apos : Pos} {e o : Expr} {es : List Expr} {ta : TE} {t : TA} {E : XK}
end
end Dk
namespace Dk
open PySem PySem.Spec PyProof.Rows L2
def oMake (C : Addr) (N : List Str) (n : Nat) (dsp : DSp Sto) (ta : AW Sto) : OW Sto := fun ρ P => ta ρ fun ks ρ1 => gets (toArgs ρ1 ks) fun as => as.length + 1 = n ∧
  ∀ a, ρ1.pn.ob a = none → ρ1.pn.ls a = none → ρ1.pn.dc a = none → dsp (.ref a :: as) (ρ1.pn.putO a ⟨C, N, List.replicate N.length .un⟩) fun d pn' => d = .none ∧ P (.fb a) ⟨ρ1.sl, pn'⟩
section
variable {K : Fg} {B : Bs} {pa : Option Addr} {zs : List (Option V)} {H F : Hp} {ws : List Sl} {pn : Sto}
theorem Rel.putL (R : Rel K B pa zs H F ws pn) {b : Addr} {xs ys : List D} {vs : List V} (hb : pn.ls b = some xs) (h : DRs K F ys vs) (hz : vs.length ≤ sizeLine) : Rel K B pa zs (upd H b (.lst vs)) F ws (pn.putL b ys) := by
  obtain ⟨T, t, r⟩ := R.stoR
  have hTb : T b := (r.t b).mpr (.inr (.inr (.inl (by rw [hb]; exact nofun))))
  have hpb : pa ≠ some b := fun z => by
    have := (r.ap b z).2.1
    rw [hb] at this
    cases this
  obtain ⟨vs0, g1, _⟩ := r.ls b xs hb
  have hr : StoR K pa (upd H b (.lst vs)) F (pn.putL b ys) T := by
    refine ⟨r.pen.frame (fun c e => upd_ne fun z => hpb (by rw [← z]; exact e)) (Le.refl _) (fun c e => t.fn c ((r.t c).mpr (.inl e))), fun a o e => ?_, fun c zs e => ?_, fun c q e => ?_, fun c z => ⟨(r.ap c z).1, ?_, (r.ap c z).2.2⟩, fun c => ?_⟩
    · obtain ⟨dx, fvs, o1, o2⟩ := r.ob a o e
      exact ⟨dx, fvs, by rw [upd_ne fun z => by rw [z, g1] at o1; cases o1]; exact o1, o2⟩
    · have e : (if c = b then some ys else pn.ls c) = some zs := e
      by_cases z : c = b
      · rw [if_pos z] at e
        cases e
        subst z
        exact ⟨vs, upd_same, h⟩
      · rw [if_neg z] at e
        rw [upd_ne z]
        exact r.ls c zs e
    · obtain ⟨u, h1, h2⟩ := r.dc c q e
      exact ⟨u, by rw [upd_ne fun z => by rw [z, g1] at h1; cases h1; exact h2.nl]; exact h1, h2⟩
    · show (if c = b then some ys else pn.ls c) = none
      rw [if_neg fun y => hpb (by rw [← y]; exact z)]
      exact (r.ap c z).2.1
    · rw [r.t c]
      show _ ↔ (pa = some c ∨ pn.ob c ≠ none ∨ (if c = b then some ys else pn.ls c) ≠ none ∨ pn.dc c ≠ none)
      by_cases z : c = b
      · rw [if_pos z]
        exact ⟨fun _ => .inr (.inr (.inl nofun)), fun _ => .inr (.inr (.inl (by rw [z, hb]; exact nofun)))⟩
      · rw [if_neg z]
  have hp : ∀ c, H c ≠ none → upd H b (.lst vs) c ≠ none := fun c h => by
    by_cases z : c = b
    · rw [z, upd_same]; exact nofun
    · rw [upd_ne z]; exact h
  exact R.reSto t (fun c u e n => by rw [upd_ne fun z => n (by rw [z]; exact hTb)]; exact e) (fun c u e => by rw [upd_ne fun z => by rw [z, t.fn b hTb] at e; cases e]; exact R.fh _ _ e) hr (fun c hc => .inl hc) (fun c hc => hp c (t.hn c hc)) hp (R.sz.upL hz)
end
section
variable {X : Cx} {k : Nat} {f C : Addr} {N : List Str} {fd : FuncData} {ps : List Str} {dsp : DSp Sto} {x m : Str} {p pos apos : Pos} {e o : Expr} {es : List Expr} {to : OW Sto} {ta : AW Sto}
end
end Dk
namespace Dk
open PySem PySem.Spec PyProof.Rows L2
def fldRef (ρ : En Sto) (i : Nat) (C : Addr) (N : List Str) (j : Nat) : Option Addr := (refS ρ.sl i).bind fun a => (fsO ρ.pn C N a).bind fun fs => match fs[j]? with
  | some (.ref b) => some b
  | _ => none
section
variable {K : Fg} {B : Bs} {pa : Option Addr} {σ : L2.St} {τ : List (Option V)} {H F : Hp} {ρ : En Sto} {θ : List Sl}
end
section
variable {X : Cx} {pos p1 p2 p3 apos : Pos} {C : Addr} {N : List Str} {x y : Str} {k : Nat} {te : DW Sto} {u : OW Sto} {e b a : Expr}
def dSetFIx (i : Nat) (C : Addr) (N : List Str) (j : Nat) (ti : OW Sto) (te : DW Sto) : DS Sto := fun E ρ => te ρ fun r ρ1 => gets (fldRef ρ1 i C N j) fun bb => ti ρ1 fun k ρ2 => gets ((k.rd ρ2).bind D.int?) fun z => gets (ρ2.pn.ls bb) fun xs => gets (ixN xs.length z) fun jj => E.nx ⟨ρ2.sl, ρ2.pn.putL bb (xs.set jj r.d)⟩
def dFAppend (i : Nat) (C : Addr) (N : List Str) (j : Nat) (t : OW Sto) : DW Sto := fun ρ P => gets (fldRef ρ i C N j) fun bb => (ρ.pn.ls bb).isSome = true ∧ t ρ fun k ρ1 => gets k.valD fun d => gets (ρ1.pn.ls bb) fun xs => xs.length < sizeLine ∧ P (.val .none) ⟨ρ1.sl, ρ1.pn.putL bb (xs ++ [d])⟩
end
section
variable {S : Type} [StK S] {X : Cx} {pos p1 p2 : Pos} {x : Str} {k : Nat} {te : DW S} {u : OW S} {e b : Expr} {op : Operator} {f : Int → Int → Int}
def dAugIx (i : Nat) (f : Int → Int → Int) (ti : OW S) (te : DW S) : DS S := fun E ρ => (own? ρ.sl i).isSome = true ∧ ti ρ fun k ρ1 => gets ((k.rd ρ1).bind D.int?) fun z => gets (own? ρ1.sl i) fun xs => 0 ≤ z ∧ gets ((xs[z.toNat]?).bind D.int?) fun old => te ρ1 fun r ρ2 => gets (D.int? r.d) fun m => gets (own? ρ2.sl i) fun ys => z < ys.length ∧ E.nx { ρ2 with sl := ρ2.sl.set i (.own (ys.set z.toNat (.int (f old m)))) }
end
end Dk
namespace Dk
open PySem PySem.Spec PyProof.Rows L2
open Classical in
noncomputable def minA : List D → Option Rs
  | [.list (x :: xs)] => if PySem.W.AlikeAll (x :: xs) ∧ PyData.depthAll (x :: xs) ≤ 60 then some (.val (PySem.W.minD x xs)) else none
  | _ => none
open Classical in
@[simp↓] theorem g_minA {x : D} {xs : List D} {k : Rs → Prop} : gets (minA [.list (x :: xs)]) k = ((PySem.W.AlikeAll (x :: xs) ∧ PyData.depthAll (x :: xs) ≤ 60) ∧ k (.val (PySem.W.minD x xs))) := by unfold minA; exact g_ite
structure DfnM (K : Fg) (x q : Str) (st : Stmt) (f : Addr) (fd : FuncData) : Prop where
  F : FunD K x q (defArgs st) (defBody st) (defScope st) [] [] f fd
section
variable {E : DE Sto} {s0 : Sl} {l0 : List Sl} {pn : Sto} {te : DW Sto} {ta to : OW Sto} {aa : AW Sto} {i j n : Nat} {C : Addr} {N : List Str} {P : Rs → En Sto → Prop} {Po : Tk → En Sto → Prop} {dsp : DSp Sto} {dp : DSp} {a b : Addr} {xs : List D} {o : Ob} {fs : List Sl}
@[simp↓] theorem z_oAttr : oAttr i C N j ⟨s0 :: l0, pn⟩ Po = gets (refS (s0 :: l0) i) fun a => gets (fsO pn C N a) fun fs => match fs[j]? with
  | some (.val d) => Po (.tmp (.val d)) ⟨s0 :: l0, pn⟩
  | some (.ref b) => Po (.fb b) ⟨s0 :: l0, pn⟩
  | _ => False := rfl
@[simp↓] theorem z_dAttr : dAttr i C N j ⟨s0 :: l0, pn⟩ P = gets (refS (s0 :: l0) i) fun a => gets (fsO pn C N a) fun fs => match fs[j]? with
  | some (.val d) => P (.val d) ⟨s0 :: l0, pn⟩
  | _ => False := rfl
@[simp↓] theorem z_dSetF : dSetF i C N j te E ⟨s0 :: l0, pn⟩ = te ⟨s0 :: l0, pn⟩ fun r ρ1 => gets (refS ρ1.sl i) fun a => gets (fsO ρ1.pn C N a) fun fs => match r with
  | .val d => E.nx ⟨ρ1.sl, ρ1.pn.putO a ⟨C, N, fs.set j (.val d)⟩⟩
  | .own xs => ∀ b, b ≠ a → ρ1.pn.ls b = none → ρ1.pn.ob b = none → ρ1.pn.dc b = none → E.nx ⟨ρ1.sl, (ρ1.pn.putL b xs).putO a ⟨C, N, fs.set j (.ref b)⟩⟩ := rfl
@[simp↓] theorem z_dSetFIx : dSetFIx i C N j ta te E ⟨s0 :: l0, pn⟩ = te ⟨s0 :: l0, pn⟩ fun r ρ1 => gets (fldRef ρ1 i C N j) fun bb => ta ρ1 fun k ρ2 => gets ((k.rd ρ2).bind D.int?) fun z => gets (ρ2.pn.ls bb) fun xs => gets (ixN xs.length z) fun jj => E.nx ⟨ρ2.sl, ρ2.pn.putL bb (xs.set jj r.d)⟩ := rfl
@[simp↓] theorem z_dFAppend : dFAppend i C N j ta ⟨s0 :: l0, pn⟩ P = gets (fldRef ⟨s0 :: l0, pn⟩ i C N j) fun bb => (pn.ls bb).isSome = true ∧ ta ⟨s0 :: l0, pn⟩ fun k ρ1 => gets k.valD fun d => gets (ρ1.pn.ls bb) fun xs => xs.length < sizeLine ∧ P (.val .none) ⟨ρ1.sl, ρ1.pn.putL bb (xs ++ [d])⟩ := rfl
@[simp↓] theorem z_dMeth : dMeth to C N n dsp aa ⟨s0 :: l0, pn⟩ P = to ⟨s0 :: l0, pn⟩ fun k ρ0 => gets (recvA ρ0.sl k) fun a => (fsO ρ0.pn C N a).isSome = true ∧ aa ρ0 fun ks ρ1 => gets (toArgs ρ1 ks) fun as => as.length + 1 = n ∧ dsp (.ref a :: as) ρ1.pn fun d pn' => P (.val d) ⟨ρ1.sl, pn'⟩ := rfl
@[simp↓] theorem z_oMake : oMake C N n dsp aa ⟨s0 :: l0, pn⟩ Po = aa ⟨s0 :: l0, pn⟩ fun ks ρ1 => gets (toArgs ρ1 ks) fun as => as.length + 1 = n ∧
  ∀ a, ρ1.pn.ob a = none → ρ1.pn.ls a = none → ρ1.pn.dc a = none → dsp (.ref a :: as) (ρ1.pn.putO a ⟨C, N, List.replicate N.length .un⟩) fun d pn' => d = .none ∧ Po (.fb a) ⟨ρ1.sl, pn'⟩ := rfl
@[simp↓] theorem z_dCallP : dCallP n dp aa ⟨s0 :: l0, pn⟩ P = aa ⟨s0 :: l0, pn⟩ fun ks ρ1 => gets (toArgsP ρ1 ks) fun as => as.length = n ∧ dp as ρ1.pn.pen fun d pn' => P (.val d) ⟨ρ1.sl, { ρ1.pn with pen := pn' }⟩ := rfl
@[simp↓] theorem z_dForL {it : IW Sto} {g : GW Sto} {t : DS Sto} : dForL it g t E ⟨s0 :: l0, pn⟩ = it ⟨s0 :: l0, pn⟩ fun c ρ1 => (c.ks.any Tk.slot1? = false) ∧ gets (c.items ρ1) fun items => items.length ≤ sizeLine → forL c items g t E items ρ1 := rfl
@[simp↓] theorem g_refS0 {k : Addr → Prop} : gets (refS (.ref a :: l0) 0) k = k a := rfl
@[simp↓] theorem g_refSS {k : Addr → Prop} : gets (refS (s0 :: l0) (n + 1)) k = gets (refS l0 n) k := rfl
@[simp↓] theorem g_recvF {l : List Sl} {k : Addr → Prop} : gets (recvA l (.fb a)) k = k a := rfl
@[simp↓] theorem g_recvS {l : List Sl} {k : Addr → Prop} : gets (recvA l (.slot i)) k = gets (refS l i) k := rfl
@[simp↓] theorem g_fb {sl : List Sl} {k : D → Prop} : gets (Tk.rd (⟨sl, pn⟩ : En Sto) (.fb b)) k = gets (pn.ls b) fun xs => k (.list xs) := by
  show gets ((pn.ls b).map _) k = _
  exact g_map
@[simp↓] theorem g_taF {sl : List Sl} {k : Arg → Prop} : gets (toArg (⟨sl, pn⟩ : En Sto) (.fb b)) k = k (.ref b) := rfl
@[simp↓] theorem g_asR {k : Arg → Prop} : gets (argS (.ref a :: l0) 0) k = k (.ref a) := rfl
@[simp↓] theorem g_fldRef {sl : List Sl} {k : Addr → Prop} : gets (fldRef ⟨sl, pn⟩ i C N j) k = gets (refS sl i) fun a => gets (fsO pn C N a) fun fs => match fs[j]? with
  | some (.ref b) => k b
  | _ => False := by
  unfold fldRef
  rw [g_bind]
  congr 1
  funext a
  rw [g_bind]
  congr 1
  funext fs
  cases h : fs[j]? with
  | none => rfl
  | some s => cases s <;> rfl
@[simp↓] theorem g_tpP0 {ρ : En Sto} {k : List Arg → Prop} : gets (toArgsP ρ []) k = k [] := rfl
@[simp↓] theorem g_tpP {ρ : En Sto} {kk : Tk} {ks : List Tk} {k : List Arg → Prop} : gets (toArgsP ρ (kk :: ks)) k = gets (toArgP ρ kk) fun d => gets (toArgsP ρ ks) fun ds => k (d :: ds) := by
  show gets ((toArgP ρ kk).bind _) k = _
  rw [g_bind]; congr 1; funext d; exact g_bind
@[simp↓] theorem g_tpT {ρ : En Sto} {d : D} {k : Arg → Prop} : gets (toArgP ρ (.tmp (.val d))) k = k (.val d) := rfl
@[simp↓] theorem g_tpF {sl : List Sl} {k : Arg → Prop} : gets (toArgP (⟨sl, pn⟩ : En Sto) (.fb b)) k = gets (pn.ls b) fun xs => k (.bor xs) := by
  show gets ((pn.ls b).map _) k = _
  exact g_map
theorem putO_fs : fsO (pn.putO a ⟨C, N, fs⟩) C N a = some fs := by
  refine fsO_of ?_
  show (if a = a then _ else _) = _
  rw [if_pos rfl]
@[simp↓] theorem g_putO {k : List Sl → Prop} : gets (fsO (pn.putO a ⟨C, N, fs⟩) C N a) k = k fs := by rw [putO_fs]; rfl
@[simp↓] theorem i_putO : (fsO (pn.putO a ⟨C, N, fs⟩) C N a).isSome = True := by rw [putO_fs]; simp
@[simp↓] theorem g_putOL {a' : Addr} {k : List Sl → Prop} : gets (fsO (pn.putL b xs) C N a') k = gets (fsO pn C N a') k := rfl
@[simp] theorem ls_putO : (pn.putO a o).ls b = pn.ls b := rfl
@[simp] theorem ob_putL {a' : Addr} : (pn.putL b xs).ob a' = pn.ob a' := rfl
@[simp] theorem pen_putO : (pn.putO a o).pen = pn.pen := rfl
@[simp] theorem pen_putL : (pn.putL b xs).pen = pn.pen := rfl
theorem ls_same : (pn.putL b xs).ls b = some xs := if_pos rfl
@[simp↓] theorem g_lsSame {k : List D → Prop} : gets ((pn.putL b xs).ls b) k = k xs := by rw [ls_same]; rfl
end
section
variable {S : Type} [StK S] {E : DE S} {s0 : Sl} {l0 : List Sl} {pn : S} {te : DW S} {ti : OW S} {i : Nat} {f : Int → Int → Int}
@[simp↓] theorem z_dAugIx : dAugIx i f ti te E ⟨s0 :: l0, pn⟩ = ((own? (s0 :: l0) i).isSome = true ∧ ti ⟨s0 :: l0, pn⟩ fun k ρ1 => gets ((k.rd ρ1).bind D.int?) fun z => gets (own? ρ1.sl i) fun xs => 0 ≤ z ∧ gets ((xs[z.toNat]?).bind D.int?) fun old => te ρ1 fun r ρ2 => gets (D.int? r.d) fun m => gets (own? ρ2.sl i) fun ys => z < ys.length ∧ E.nx ⟨ρ2.sl.set i (.own (ys.set z.toNat (.int (f old m)))), ρ2.pn⟩) := rfl
end
end Dk
namespace Dk
open PySem PySem.Spec PyProof.Rows L2
variable {S : Type} [StK S]
def dFrz (t : DW S) : DW S := fun ρ P => t ρ fun r ρ' => P (.val r.d) ρ'
@[simp↓] theorem z_dFrz {t : DW S} {s0 : Sl} {l0 : List Sl} {pn : S} {P : Rs → En S → Prop} : dFrz t ⟨s0 :: l0, pn⟩ P = t ⟨s0 :: l0, pn⟩ fun r ρ' => P (.val r.d) ρ' := rfl
@[simp] theorem v_slR {a : Addr} : Arg.sl (.ref a) = .ref a := rfl
@[simp] theorem v_slot1T {r : Rs} : Tk.slot1? (.tmp r) = false := rfl
@[simp] theorem v_slot1F {a : Addr} : Tk.slot1? (.fb a) = false := rfl
@[simp↓] theorem g_min2 {i j : Int} {k : Rs → Prop} : gets (minD [.int i, .int j]) k = k (.val (.int (min i j))) := rfl
@[simp↓] theorem g_absI {i : Int} {k : Rs → Prop} : gets (absD [.int i]) k = k (.val (.int (if i < 0 then -i else i))) := rfl
def Li (f : Nat → Int) (n : Nat) : List D := (List.range n).map fun j => .int (f j)
@[simp] theorem Li_len {f : Nat → Int} {n : Nat} : (Li f n).length = n := by simp [Li]
end Dk
namespace Dk
open PySem PySem.Spec PyProof.Rows L2
variable {S : Type} [StK S]
def lcO (c : Sc) (items : List D) (g : GW S) (tt : BW S) (it1 : IW S) (g1 : GW S) (tt1 : BW S) (te : OW S) (vs vs1 : List Nat) (Q : List D → En S → Prop) : List D → List D → En S → Prop
  | [], acc, ρ => c.items ρ = some items ∧ Q acc ρ
  | d :: r, acc, ρ => c.items ρ = some items ∧ g d ρ fun ρ1 => tt ρ1 fun b ρ2 => if b = true then
      it1 ρ2 fun c1 ρ3 => gets (c1.items ρ3) fun items1 => acc.length + items1.length ≤ sizeLine ∧
        lcW c1 items1 g1 tt1 te vs1 (fun acc' ρ4 => lcO c items g tt it1 g1 tt1 te vs vs1 Q r acc' { ρ4 with sl := wipeD ρ4.sl vs }) items1 acc { ρ3 with sl := wipeD ρ3.sl vs1 }
      else lcO c items g tt it1 g1 tt1 te vs vs1 Q r acc { ρ2 with sl := wipeD ρ2.sl vs }
def dLc2 (it : IW S) (g : GW S) (tt : BW S) (it1 : IW S) (g1 : GW S) (tt1 : BW S) (te : OW S) (vs vs1 : List Nat) : DW S := fun ρ P => it ρ fun c ρ1 => gets (c.items ρ1) fun items => items.length ≤ sizeLine →
  lcO c items g tt it1 g1 tt1 te vs vs1 (fun acc ρ2 => P (.own acc) { ρ2 with sl := unwipe ρ1.sl ρ2.sl vs }) items [] { ρ1 with sl := wipeD ρ1.sl vs }
theorem wipe_sub {σ : L2.St} {vs vs1 : List Nat} (h : ∀ i ∈ vs1, i ∈ vs) : wipe (wipe σ vs1) vs = wipe σ vs := by
  apply List.ext_getElem?
  intro j
  rw [wipe_get, wipe_length, wipe_get, wipe_get]
  by_cases e : j ∈ vs
  · rw [if_pos e, if_pos e]
  · rw [if_neg e, if_neg e, if_neg fun z => e (h j z)]
theorem lc2_step {K : Fg} {it it1 : IW S} {g g1 : GW S} {tt tt1 : BW S} {te : OW S} {is is1 vs vs1 : List Nat} (hv : ∀ i ∈ is, i ∈ vs) (hv1 : ∀ i ∈ is1, i ∈ vs1) (hvv : ∀ i ∈ vs1, i ∈ vs) {σ : L2.St} {H : Hp} {Q : VK} (h : liftO K (tmpD (dLc2 it g tt it1 g1 tt1 te vs vs1)) σ H Q) :
    tLc2 (liftI K it) (liftG K is g) (liftT K tt) (liftI K it1) (liftG K is1 g1) (liftT K tt1) (liftO K te) vs vs1 σ H Q := by
  obtain ⟨B, pa, τ, F, ρ, θ, P, R, hl, h, q⟩ := toE h
  refine ⟨B, pa, τ, F, ρ, θ, _, R, hl, h, fun c ρ1 us H1 F1 J h1 hl1 hk R1 s1 src => fun Da hDa => ?_⟩
  obtain ⟨items, ei, h1⟩ := gets_elim h1
  have hτ : τ.length = θ.length := by have := (R1.pops (by simp [hk])).len; simp at this; omega
  have R1' : Rel K B pa (σ ++ (τ ++ us.map some)) H1 F1 (ρ1.sl ++ (θ ++ c.ks.map Tk.sl)) ρ1.pn := by simpa only [List.append_assoc] using R1
  obtain ⟨ds0, er, ef⟩ := Option.bind_eq_some_iff.mp ei
  have rd0 := reads_all (σ := σ) hl1 c.ks us τ θ ds0 hτ hk R1' s1 er
  obtain ⟨_, hsz⟩ := src.stop H1 F1 ds0 items R1.sz (Le.refl _) R1.fh rd0 ef
  have h1 := h1 hsz
  generalize hQ0 : (fun acc (ρ2 : En S) => P (.own acc) { ρ2 with sl := unwipe ρ1.sl ρ2.sl vs }) = Q0 at h1
  let Hd : Nat → Hp → Prop := fun i Hc => ∃ (ρc ρ0 : En S) (Fc : Hp) (acc : List D), Rel K ⟨B.H0, F1, B.M⟩ pa (wipe σ vs ++ (τ ++ us.map some) ++ [some (.ref Da)]) Hc Fc (ρc.sl ++ (θ ++ c.ks.map Tk.sl) ++ [.own acc]) ρc.pn ∧ ρc.sl.length = σ.length ∧ ρc.sl = wipeD ρ0.sl vs ∧
    lcO c items g tt it1 g1 tt1 te vs vs1 Q0 (items.drop i) acc ρc
  refine ⟨fun i m Hc => i ≤ items.length ∧ m = items.length - i ∧ Hd i Hc, ⟨items.length, Nat.zero_le _, rfl, { ρ1 with sl := wipeD ρ1.sl vs }, ρ1, F1, [], ?_, by simp [wipeD_len, hl1], rfl, h1⟩, ?_⟩
  · have R2 := R1'.focus.pushOwn (vs := []) hDa .nil (Nat.zero_le _)
    rw [List.append_assoc σ, List.append_assoc ρ1.sl] at R2
    have R3 := R2.wiped vs hl1
    rw [← List.append_assoc (wipe σ vs), ← List.append_assoc (wipeD ρ1.sl vs)] at R3
    exact R3
  · rintro i m Hc ⟨hi, rfl, ρc, ρ0, Fc, acc, Rc, hlc, hw, hq⟩
    by_cases hlt : i < items.length
    · rw [List.drop_eq_getElem_cons hlt] at hq
      obtain ⟨hlive, hq⟩ := hq
      obtain ⟨ds, rd, ef⟩ := live_read Rc.pop hlc hτ hw hk s1 hlive
      obtain ⟨go, yl⟩ := src.step Hc Fc ds items i items[i] Rc.sz Rc.f0 Rc.fh rd ef (List.getElem?_eq_getElem hlt)
      refine .inr ⟨go, fun H' => Hd (i + 1) H', fun H' hh => ⟨items.length - (i + 1), by omega, hlt, rfl, hh⟩, fun x H' hy => ?_⟩
      obtain ⟨F', hF', R', dx⟩ := Rc.yl (yl x H' hy)
      refine ⟨⟨B.H0, F1, B.M⟩, pa, τ ++ us.map some ++ [some (.ref Da)], F', ρc, θ ++ c.ks.map Tk.sl ++ [.own acc], _, items[i], by simpa only [List.append_assoc] using R', by rw [wipe_length]; exact hlc, dx, hq, fun ρ2 σ2 h2 l1 l2 w2 R2 => ⟨by rw [w2 vs hv, wipe_wipe], ?_⟩⟩
      rw [wipe_length] at l1 l2
      have ew : wipe σ2 vs = wipe σ vs := by rw [w2 vs hv, wipe_wipe]
      refine ⟨⟨B.H0, F1, B.M⟩, pa, _, F', ρ2, _, _, R2, by omega, h2, fun b ρ3 H3 F3 h3 l3 R3 => ?_⟩
      cases b with
      | false =>
        refine iteF ⟨{ ρ3 with sl := wipeD ρ3.sl vs }, ρ3, F3, acc, ?_, by simp [wipeD_len]; omega, rfl, by simpa using h3⟩
        have R4 := R3.wiped vs (by omega)
        rw [ew] at R4
        simpa only [List.append_assoc] using R4
      | true =>
        have h3 := (show (if true = true then _ else _ : Prop) from h3)
        rw [if_pos rfl] at h3
        refine iteT ⟨⟨B.H0, F1, B.M⟩, pa, _, F3, ρ3, _, _, R3, by omega, h3, fun c1 ρ4 us1 H4 F4 J1 h4 l4 hk1 R4 s4 src1 => ?_⟩
        obtain ⟨items1, ei1, hsz1, h4⟩ := gets_elim h4
        have R4' : Rel K ⟨B.H0, F1, B.M⟩ pa (σ2 ++ (τ ++ us.map some ++ [some (.ref Da)] ++ us1.map some)) H4 F4 (ρ4.sl ++ (θ ++ c.ks.map Tk.sl ++ [.own acc] ++ c1.ks.map Tk.sl)) ρ4.pn := by simpa only [List.append_assoc] using R4
        have hτ1 : (τ ++ us.map some ++ [some (V.ref Da)]).length = (θ ++ c.ks.map Tk.sl ++ [Sl.own acc]).length := by simp [hτ, hk]
        refine ⟨fun j k Hc => ∃ (ρd ρe : En S) (Fd : Hp) (acc1 : List D), Rel K ⟨B.H0, F4, B.M⟩ pa (wipe σ2 vs1 ++ (τ ++ us.map some ++ [some (.ref Da)] ++ us1.map some)) Hc Fd (ρd.sl ++ (θ ++ c.ks.map Tk.sl ++ [.own acc1] ++ c1.ks.map Tk.sl)) ρd.pn ∧ ρd.sl.length = σ2.length ∧ ρd.sl = wipeD ρe.sl vs1 ∧ j ≤ items1.length ∧ k = items1.length - j ∧ acc1.length ≤ acc.length + j ∧
          lcW c1 items1 g1 tt1 te vs1 (fun acc' ρ4 => lcO c items g tt it1 g1 tt1 te vs vs1 Q0 (items.drop (i + 1)) acc' { ρ4 with sl := wipeD ρ4.sl vs }) (items1.drop j) acc1 ρd,
          ⟨items1.length, { ρ4 with sl := wipeD ρ4.sl vs1 }, ρ4, F4, acc, R4'.focus.wiped vs1 (by omega), by simp [wipeD_len]; omega, rfl, Nat.zero_le _, rfl, Nat.le_refl _, h4⟩, ?_⟩
        rintro j k Hd' ⟨ρd, ρe, Fd, acc1, Rd, hld, hwd, hj, rfl, ha, hqd⟩
        have hτ2 : (τ ++ us.map some ++ [some (V.ref Da)]).length = (θ ++ c.ks.map Tk.sl ++ [Sl.own acc1]).length := by simp [hτ, hk]
        by_cases hjl : j < items1.length
        · rw [List.drop_eq_getElem_cons hjl] at hqd
          obtain ⟨hlv, hqd⟩ := hqd
          obtain ⟨ds1, rd1, ef1⟩ := live_read Rd hld hτ2 hwd hk1 s4 hlv
          obtain ⟨go1, yl1⟩ := src1.step Hd' Fd ds1 items1 j items1[j] Rd.sz Rd.f0 Rd.fh rd1 ef1 (List.getElem?_eq_getElem hjl)
          refine .inr ⟨go1, fun H' => ∃ (ρd ρe : En S) (Fd : Hp) (acc1 : List D), Rel K ⟨B.H0, F4, B.M⟩ pa (wipe σ2 vs1 ++ (τ ++ us.map some ++ [some (.ref Da)] ++ us1.map some)) H' Fd (ρd.sl ++ (θ ++ c.ks.map Tk.sl ++ [.own acc1] ++ c1.ks.map Tk.sl)) ρd.pn ∧ ρd.sl.length = σ2.length ∧ ρd.sl = wipeD ρe.sl vs1 ∧ acc1.length ≤ acc.length + (j + 1) ∧
            lcW c1 items1 g1 tt1 te vs1 (fun acc' ρ4 => lcO c items g tt it1 g1 tt1 te vs vs1 Q0 (items.drop (i + 1)) acc' { ρ4 with sl := wipeD ρ4.sl vs }) (items1.drop (j + 1)) acc1 ρd,
            fun H' ⟨ρd, ρe, Fd, acc1, a1, a2, a3, a5, a6⟩ => ⟨items1.length - (j + 1), by omega, ρd, ρe, Fd, acc1, a1, a2, a3, hjl, rfl, a5, a6⟩, fun y H' hy => ?_⟩
          obtain ⟨F5, hF5, R5, dy⟩ := Rd.yl (yl1 y H' hy)
          refine ⟨⟨B.H0, F4, B.M⟩, pa, τ ++ us.map some ++ [some (.ref Da)] ++ us1.map some, F5, ρd, θ ++ c.ks.map Tk.sl ++ [.own acc1] ++ c1.ks.map Tk.sl, _, items1[j], R5, by rw [wipe_length]; exact hld, dy, hqd, fun ρ5 σ3 h5 l5 l6 w5 R6 => ⟨by rw [w5 vs1 hv1, wipe_wipe], ?_⟩⟩
          rw [wipe_length] at l5 l6
          have ew1 : wipe σ3 vs1 = wipe σ2 vs1 := by rw [w5 vs1 hv1, wipe_wipe]
          refine ⟨⟨B.H0, F4, B.M⟩, pa, _, F5, ρ5, _, _, R6, by omega, h5, fun b ρ6 H6 F6 h6 l7 R7 => ?_⟩
          cases b with
          | false =>
            refine iteF ⟨{ ρ6 with sl := wipeD ρ6.sl vs1 }, ρ6, F6, acc1, ?_, by simp [wipeD_len]; omega, rfl, by omega, by simpa using h6⟩
            have R8 := R7.wiped vs1 (by omega)
            rw [ew1] at R8
            exact R8
          | true =>
            have h6 := (show (if true = true then _ else _ : Prop) from h6)
            rw [if_pos rfl] at h6
            refine iteT ⟨⟨B.H0, F4, B.M⟩, pa, _, F6, ρ6, _, _, R7, by omega, h6, fun k ρ7 z H7 F7 h7 l8 R8 _ => ?_⟩
            obtain ⟨d, ek, h7⟩ := gets_elim h7
            have ek := valD_some ek
            subst ek
            obtain ⟨⟨u, g2, g3⟩, _⟩ := Rel.last (s := .val d) R8
            cases g2
            have R9 : Rel K ⟨B.H0, F4, B.M⟩ pa (σ3 ++ (τ ++ us.map some) ++ [some (.ref Da)] ++ us1.map some) H7 F7 (ρ7.sl ++ (θ ++ c.ks.map Tk.sl) ++ [.own acc1] ++ c1.ks.map Tk.sl) ρ7.pn := by simpa only [List.append_assoc] using R8.pop
            have Ra := R9.pops (by simp [hk1])
            obtain ⟨⟨a', av, q2, q3, q4, _⟩, q1⟩ := Ra.last
            cases q2
            have hal : av.length < sizeLine := by rw [q4.len]; omega
            refine ⟨av, q3, hal, { ρ7 with sl := wipeD ρ7.sl vs1 }, ρ7, F7, acc1 ++ [d], ?_, by simp [wipeD_len]; omega, rfl, by simp; omega, h7⟩
            have Rb := R9.write (i := (ρ7.sl ++ (θ ++ c.ks.map Tk.sl)).length) (a := Da) (ys := acc1 ++ [d]) (vs := av ++ [z]) (by rw [List.getElem?_append_left (by simp)]; exact app_last _ _) (by
              have := List.getElem?_append_left (l₂ := us1.map some) (List.getElem?_eq_some_iff.mp q1).1
              rw [this]
              exact q1) (q4.append (.cons g3 .nil)) (by simp; omega)
            rw [List.set_append_left _ _ (by simp), List.set_append_right _ _ (Nat.le_refl _), Nat.sub_self] at Rb
            have Rc2 : Rel K ⟨B.H0, F4, B.M⟩ pa (σ3 ++ (τ ++ us.map some ++ [some (.ref Da)] ++ us1.map some)) (upd H7 Da (.lst (av ++ [z]))) F7 (ρ7.sl ++ (θ ++ c.ks.map Tk.sl ++ [.own (acc1 ++ [d])] ++ c1.ks.map Tk.sl)) ρ7.pn := by simpa only [List.append_assoc, List.set_cons_zero] using Rb
            have Rd2 := Rc2.wiped vs1 (by omega)
            rw [ew1] at Rd2
            exact Rd2
        · have e : j = items1.length := by omega
          subst e
          rw [List.drop_length] at hqd
          obtain ⟨hlv, hqd⟩ := hqd
          obtain ⟨ds1, rd1, ef1⟩ := live_read Rd hld hτ2 hwd hk1 s4 hlv
          refine .inl ⟨(src1.stop Hd' Fd ds1 items1 Rd.sz Rd.f0 Rd.fh rd1 ef1).1, { ρd with sl := wipeD ρd.sl vs }, ρd, Fd, acc1, ?_, by simp [wipeD_len]; omega, rfl, hqd⟩
          have Re : Rel K ⟨B.H0, F1, B.M⟩ pa (wipe σ2 vs1 ++ (τ ++ us.map some ++ [some (.ref Da)]) ++ us1.map some) Hd' Fd (ρd.sl ++ (θ ++ c.ks.map Tk.sl ++ [.own acc1]) ++ c1.ks.map Tk.sl) ρd.pn := by simpa only [List.append_assoc] using Rel.rebase (B := ⟨B.H0, F1, B.M⟩) Rd R4'
          have Rf := (Re.pops (by simp [hk1])).wiped vs (by rw [wipe_length]; exact hld)
          rw [wipe_sub hvv, ew] at Rf
          simpa only [List.append_assoc] using Rf
    · have e : i = items.length := by omega
      subst e
      rw [List.drop_length] at hq
      obtain ⟨hlive, hq⟩ := hq
      obtain ⟨ds, rd, ef⟩ := live_read Rc.pop hlc hτ hw hk s1 hlive
      rw [← hQ0] at hq
      refine .inl ⟨(src.stop Hc Fc ds items Rc.sz Rc.f0 Rc.fh rd ef).1, q _ _ _ Hc Fc hq (by simp [unwipe_len, hlc]) ?_⟩
      have R5 : Rel K ⟨B.H0, F1, B.M⟩ pa (wipe σ vs ++ (τ ++ us.map some ++ [some (.ref Da)])) Hc Fc (ρc.sl ++ (θ ++ c.ks.map Tk.sl ++ [.own acc])) ρc.pn := by simpa only [List.append_assoc] using Rc
      have R6 := (R5.rebase R1').unwiped vs hlc R1' hl1 Rc.f0
      have R7 : Rel K B pa ((σ ++ τ) ++ us.map some ++ [some (.ref Da)]) Hc Fc ((unwipe ρ1.sl ρc.sl vs ++ θ) ++ c.ks.map Tk.sl ++ [.own acc]) ρc.pn := by simpa only [List.append_assoc] using R6
      exact R7.dropMid (by simp [unwipe_len, hlc, hl1, hτ]) (by simp [hk])
section
variable {X : Cx} {tg iter tg1 iter1 elt : Expr} {ifs ifs1 : List Expr} {scope : Scope} {pos : Pos} {k : Nat} {it it1 : IW S} {g g1 : GW S} {tt tt1 : BW S} {te : OW S} {is is1 : List Nat}
theorem cs_setLc2 (i : Nat) {x : Str} {py p : Pos} (own : List (Str × Nat)) (vs1 : List Nat) (hx0 : XO X k) (hi : CI (S := S) X tg iter it)
    (hg : ∀ (s : Shared) (H : Hp) (C : Addr) (cl : List (Str × Addr)) (fp : List Addr), CG (S := S) (X.blk s H scope (compEnvC scope cl C X.env) fp) tg is g)
    (ht : ∀ (s : Shared) (H : Hp) (C : Addr) (cl : List (Str × Addr)) (fp : List Addr), CTs (S := S) (X.blk s H scope (compEnvC scope cl C X.env) fp) ifs tt)
    (hi1 : ∀ (s : Shared) (H : Hp) (C : Addr) (cl : List (Str × Addr)) (fp : List Addr), CI (S := S) (X.blk s H scope (compEnvC scope cl C X.env) fp) tg1 iter1 it1)
    (hg1 : ∀ (s : Shared) (H : Hp) (C : Addr) (cl : List (Str × Addr)) (fp : List Addr), CG (S := S) (X.blk s H scope (compEnvC scope cl C X.env) fp) tg1 is1 g1)
    (ht1 : ∀ (s : Shared) (H : Hp) (C : Addr) (cl : List (Str × Addr)) (fp : List Addr), CTs (S := S) (X.blk s H scope (compEnvC scope cl C X.env) fp) ifs1 tt1)
    (he : ∀ (s : Shared) (H : Hp) (C : Addr) (cl : List (Str × Addr)) (fp : List Addr), CO (S := S) (X.blk s H scope (compEnvC scope cl C X.env) fp) elt te)
    (hxi : X.N[i]? = some x := by rfl) (hyl : X.env.scope.names.lookup x = some .local := by rfl)
    (hsw : swapsWith (.ListComp elt [⟨tg, iter, ifs, 0⟩, ⟨tg1, iter1, ifs1, 0⟩] scope p) (some (.Name x py)) pos.line X.env = pure true := by exact sw_true rfl rfl rfl (by decide +kernel))
    (ok : blkC X.N X.env.scope scope own = true := by kernel_rfl) (hv : ∀ i ∈ is, i ∈ own.map (·.2) := by decide) (hv1 : ∀ i ∈ is1, i ∈ vs1 := by decide) (hvv : ∀ i ∈ vs1, i ∈ own.map (·.2) := by decide)
    (hs : ∀ x, foldedSetIterable iter X.env x = pure x := by intro _; rfl) (hs1 : ∀ env x, foldedSetIterable iter1 env x = pure x := by intro _ _; rfl) :
    CS (S := S) X (.Assign [.Name x py] (.ListComp elt [⟨tg, iter, ifs, 0⟩, ⟨tg1, iter1, ifs1, 0⟩] scope p) pos) (dSet i (dLc2 it g tt it1 g1 tt1 te (own.map (·.2)) vs1)) := by
  refine ⟨fun pins s σ H Z I h => ?_⟩
  exact (ps_setLc2 hx0.calm hx0.nd hxi hyl hsw hi (blkOk_by ok) hvv hg ht hi1 hg1 ht1 he hs hs1).run pins s σ H Z I (lc2_step hv hv1 hvv (set_step (by rw [I.len]; exact (List.getElem?_eq_some_iff.mp hxi).1) h))
end
section
variable {s0 : Sl} {l0 : List Sl} {pn : S} {it it1 : IW S} {g g1 : GW S} {tt tt1 : BW S} {te : OW S} {vs vs1 : List Nat} {P : Rs → En S → Prop}
@[simp↓] theorem z_dLc2 : dLc2 it g tt it1 g1 tt1 te vs vs1 ⟨s0 :: l0, pn⟩ P = it ⟨s0 :: l0, pn⟩ fun c ρ1 => gets (c.items ρ1) fun items => items.length ≤ sizeLine →
  lcO c items g tt it1 g1 tt1 te vs vs1 (fun acc ρ2 => P (.own acc) ⟨unwipe ρ1.sl ρ2.sl vs, ρ2.pn⟩) items [] ⟨wipeD ρ1.sl vs, ρ1.pn⟩ := rfl
theorem lcW_shift {c : Sc} {items : List D} (Q : List D → En S → Prop) : ∀ (r acc : List D), lcW c items g tt te vs Q r acc = lcW c items g tt te vs (fun a => Q (acc ++ a)) r [] := by
  have key : ∀ (r acc acc0 : List D), lcW c items g tt te vs Q r (acc ++ acc0) = lcW c items g tt te vs (fun a => Q (acc ++ a)) r acc0 := by
    intro r
    induction r with
    | nil => intro acc acc0; rfl
    | cons d r ih =>
      intro acc acc0
      funext ρ
      unfold lcW
      have e : ∀ (y : D), lcW c items g tt te vs Q r (acc ++ acc0 ++ [y]) = lcW c items g tt te vs (fun a => Q (acc ++ a)) r (acc0 ++ [y]) := fun y => by rw [List.append_assoc]; exact ih _ _
      simp only [e, ih]
  intro r acc
  have := key r acc []
  rwa [List.append_nil] at this
theorem lcO_inv {c : Sc} {items : List D} {Q : List D → En S → Prop} (J : Nat → List D → En S → Prop) (its : ∀ i acc ρ, J i acc ρ → c.items ρ = some items)
    (step : ∀ (i : Nat) (d : D) (acc : List D) (ρ : En S), items[i]? = some d → J i acc ρ → ∀ N : List D → En S → Prop, (∀ acc' ρ', J (i + 1) acc' ρ' → N acc' ρ') →
      g d ρ fun ρ1 => tt ρ1 fun b ρ2 => if b = true then it1 ρ2 fun c1 ρ3 => gets (c1.items ρ3) fun items1 => acc.length + items1.length ≤ sizeLine ∧
        lcW c1 items1 g1 tt1 te vs1 (fun acc' ρ4 => N acc' { ρ4 with sl := wipeD ρ4.sl vs }) items1 acc { ρ3 with sl := wipeD ρ3.sl vs1 } else N acc { ρ2 with sl := wipeD ρ2.sl vs })
    (fin : ∀ acc ρ, J items.length acc ρ → Q acc ρ) {ρ : En S} (h0 : J 0 [] ρ) : lcO c items g tt it1 g1 tt1 te vs vs1 Q items [] ρ := by
  have key : ∀ (n i : Nat) (acc : List D) (ρ : En S), i + n = items.length → J i acc ρ → lcO c items g tt it1 g1 tt1 te vs vs1 Q (items.drop i) acc ρ := by
    intro n
    induction n with
    | zero =>
      intro i acc ρ e h
      rw [List.drop_eq_nil_of_le (by omega)]
      exact ⟨its _ _ _ h, fin acc ρ (by rw [← show i = items.length by omega]; exact h)⟩
    | succ n ih =>
      intro i acc ρ e h
      have hi : i < items.length := by omega
      rw [List.drop_eq_getElem_cons hi]
      exact ⟨its _ _ _ h, step i items[i] acc ρ (List.getElem?_eq_getElem hi) h (fun acc ρ => lcO c items g tt it1 g1 tt1 te vs vs1 Q (items.drop (i + 1)) acc ρ) fun acc' ρ' h' => ih (i + 1) acc' ρ' (by omega) h'⟩
  exact key items.length 0 [] ρ (by omega) h0
theorem lcO_flat {α : Type} {c : Sc} {items : List D} {Q : List D → En S → Prop} {ρ0 : En S} {ts : List α} (e : α → D) (f : α → List D) (n : Nat) (hi : items = ts.map e) (hc : c.items ρ0 = some items) (hn : (ts.flatMap f).length ≤ n)
    (step : ∀ t ∈ ts, ∀ acc : List D, acc.length + (f t).length ≤ n → ∀ N : List D → En S → Prop, N (acc ++ f t) ρ0 →
      g (e t) ρ0 fun ρ1 => tt ρ1 fun b ρ2 => if b = true then it1 ρ2 fun c1 ρ3 => gets (c1.items ρ3) fun items1 => acc.length + items1.length ≤ sizeLine ∧
        lcW c1 items1 g1 tt1 te vs1 (fun acc' ρ4 => N acc' { ρ4 with sl := wipeD ρ4.sl vs }) items1 acc { ρ3 with sl := wipeD ρ3.sl vs1 } else N acc { ρ2 with sl := wipeD ρ2.sl vs })
    (q : Q (ts.flatMap f) ρ0) : lcO c items g tt it1 g1 tt1 te vs vs1 Q items [] ρ0 := by
  refine lcO_inv (fun i acc ρ => ρ = ρ0 ∧ acc = (ts.take i).flatMap f) ?_ ?_ ?_ ⟨rfl, rfl⟩
  · rintro i acc ρ ⟨rfl, _⟩
    exact hc
  · rintro i d acc ρ h ⟨rfl, rfl⟩ N hN
    rw [hi, List.getElem?_map] at h
    obtain ⟨t, h1, rfl⟩ := Option.map_eq_some_iff.mp h
    have e1 : (ts.take (i + 1)).flatMap f = (ts.take i).flatMap f ++ f t := by rw [take_snocA h1, List.flatMap_append]; simp
    refine step t (List.mem_of_getElem? h1) _ ?_ N (hN _ _ ⟨rfl, e1.symm⟩)
    have e2 : ts.flatMap f = (ts.take (i + 1)).flatMap f ++ (ts.drop (i + 1)).flatMap f := by rw [← List.flatMap_append, List.take_append_drop]
    rw [e2, e1, List.length_append, List.length_append] at hn
    omega
  · rintro acc ρ ⟨rfl, rfl⟩
    rw [hi, List.length_map, List.take_length]
    exact q
end
end Dk
set_option maxHeartbeats 4000000
namespace Dk
open PySem PySem.Spec PyProof.Rows L2
section
variable {P : Program} {w : World} {A : Around} {E : Value → Shared → Prop} {s : Shared}
abbrev newSet (w : World) : Obj := { cls := .type "set", dict := none, data := .set #[] 0 (.fresh 0 0 (!w.params.followText "set-order")) }
def SetLoop (P : Program) (w : World) (A' : Around) (h0 : Heap) (items : Array Value) (Post : Heap → Prop) : Prop :=
  ∀ (I : Addr) (s1 : Shared) (St : Nat → Shared → Prop) (fp wr : List Addr) (R : Result → Shared → Prop), h0.objs.size ∉ fp →
    WalksS P w A'.in1 I fp wr (fun a b => b = a) items.size (fun i v => items[i]? = some v) St → St 0 s1 → s1.heap.get? h0.objs.size = some (newSet w) → (∀ b o, h0.get? b = some o → s1.heap.get? b = some o) →
    (∀ b ∈ wr, h0.get? b = none) →
    (∀ s', Moved (h0.objs.size :: wr) (fun a b => b = a) s1 s' → Post s'.heap → R (.ok (.ret .none)) s') → codeAny (model P w) A' (.builtin "set.update.loop" ⟨[.ref h0.objs.size, .ref I], []⟩) R s1
theorem call_set_seq {c : Bool} {l : Addr} {items : Array Value} {Post : Heap → Prop} {Q : Value → Shared → Prop} (hh : A.handled = none) (hl : StC s.heap c l items)
    (hloop : ∀ A' : Around, A'.handled = none → A'.units ≤ A.units + 8 → SetLoop P w A' s.heap items Post)
    (h : ∀ (h' : Heap) (tk : Nat), Post h' → (∀ b o, s.heap.get? b = some o → h'.get? b = some o) → Q (.ref s.heap.objs.size) { s with heap := h', toks := tk }) :
    wpAny (model P w) A (call (.type "set") [.ref l]) Q E s := by
  obtain ⟨cc, tl, hmro⟩ := F.called_set.mro
  have hmade := F.called_set.made
  have hsub := F.called_set.sub
  refine wpAny_call (codeAny_of_tree ?_)
  show wpAny _ _ (callAny (.type "set") _) _ _ _
  refine wpAny_pure ⟨Code.quiet_builtin _ (by decide +kernel), codeAny_builtin F.entry_type_call ?_⟩
  rw [Around.under_plain (weight_type_call_type "set" [.ref l] []) rfl]
  have h1 := F.called_set.notType
  have h2 := F.called_set.canCreate
  have hct := F.typeCall_set_1 (.ref l)
  repeat (any_goals (first | assumption | wp_step))
  have hS : (s.heap.push (newSet w)).get? s.heap.objs.size = some (newSet w) := Heap.get?_push_size _ rfl
  refine codeAny_mono (code_set_led1 (.ref l) (E := E) (Q₁ := fun obj s₁ => obj = .ref s.heap.objs.size ∧ s₁ = { s with heap := s.heap.push (newSet w) }) ⟨rfl, rfl⟩) fun r s₁ hr => ?_
  cases r with
  | error e => exact hr
  | ok fl =>
    cases fl with
    | ret obj =>
      obtain ⟨rfl, rfl⟩ := hr
      have hT : Shared.TypeIs { s with heap := s.heap.push (newSet w) } (.ref s.heap.objs.size) "set" := ⟨_, hS, rfl⟩
      have hli := F.called_set.init.lookup
      have hbi := F.called_set.init.bind (.ref s.heap.objs.size)
      repeat (any_goals (first | assumption | wp_step))
      refine codeAny_mono (codeAny_call_builtin (R := wants (fun r s₂ => r = .none ∧ ∃ h' tk, s₂ = { s with heap := h', toks := tk } ∧ Post h' ∧ ∀ b o, s.heap.get? b = some o → h'.get? b = some o) E) F.called_set.init.plain F.entry_set_init (check_set_init_1 hT ?_)) fun r₂ s₂ hr₂ => ?_
      · cases c with
        | false =>
          obtain ⟨ol, hol, hcl, nl, hdl⟩ := hl
          obtain ⟨ocls, odict, odata, oslots⟩ := ol
          simp only at hcl hdl
          subst hcl; subst hdl
          have hol' : (s.heap.push (newSet w)).get? l = some { cls := .type "list", dict := odict, data := .seq items nl, slots := oslots } := Heap.get?_push_of_some _ hol
          have hsls := F.sub_list_set
          have hslf := F.sub_list_frozenset
          have hne : (Value.type "list" == Value.type "dict") = false := by decide
          have hl1 : (s.heap.push (newSet w)).IsList l items := ⟨_, hol', rfl, nl, rfl⟩
          unfold Builtin.«set.__init__» noKeywords Builtin.Frozenset.updateFrom
          generalize hPI : pyIter = PI
          wp_walk
          subst hPI
          refine wpAny_pyIter_list hl1 ?_
          refine wpAny_bind (wpAny_runValue ?_)
          have hlS : l < s.heap.objs.size := Heap.lt_size hol
          have hh3 : A.in1.in1.in1.handled = none := by simp [hh]
          have hneI : l ≠ (s.heap.push (newSet w)).objs.size := by rw [Heap.size_push]; exact Nat.ne_of_lt (Nat.lt_succ_of_lt hlS)
          refine hloop _ (by simp [hh]) (by simp) _ _ _ _ _ _ ?_ ((Walks.list hh3 _ l hneI items).toS) ⟨⟨_, Heap.get?_push_size _ rfl, rfl, rfl⟩, (hl1.push _)⟩ (Heap.get?_push_of_some _ hS) (fun b o e => Heap.get?_push_of_some _ (Heap.get?_push_of_some _ e)) (fun b hb => ?_) fun s' hm hp => ?_
          · rw [Heap.size_push]; simp only [List.mem_cons, List.not_mem_nil, or_false, not_or]
            exact ⟨Nat.ne_of_lt (Nat.lt_succ_self _), Nat.ne_of_gt hlS⟩
          · rw [Heap.size_push] at hb
            have hb := List.mem_singleton.mp hb
            rw [hb]
            cases q : s.heap.get? (s.heap.objs.size + 1) with
            | none => rfl
            | some o => exact absurd (Heap.lt_size q) (Nat.not_lt_of_le (Nat.le_succ _))
          · obtain ⟨h', g', d', tk', os'⟩ := s'
            have eg : g' = s.gens := hm.gens
            have ed : d' = s.drawn := hm.drawn
            have eo : os' = s.os := hm.os
            subst eg; subst ed; subst eo
            refine wpAny_pure ?_
            show wpAny _ _ (ret Value.none) _ _ _
            refine wpAny_pure ⟨rfl, h', tk', rfl, hp, fun b o e => ?_⟩
            have hb0 : b < s.heap.objs.size := Heap.lt_size e
            refine hm.heap b o ?_ (Heap.get?_push_of_some _ (Heap.get?_push_of_some _ e))
            rw [Heap.size_push]; simp only [List.mem_cons, List.not_mem_nil, or_false, not_or]
            exact ⟨Nat.ne_of_lt hb0, Nat.ne_of_lt (Nat.lt_succ_of_lt hb0)⟩
        | true =>
          obtain ⟨ol, hol, hcl, nl, hdl⟩ := hl
          obtain ⟨ocls, odict, odata, oslots⟩ := ol
          simp only at hcl hdl
          subst hcl; subst hdl
          have hol' : (s.heap.push (newSet w)).get? l = some { cls := .type "tuple", dict := odict, data := .seq items nl, slots := oslots } := Heap.get?_push_of_some _ hol
          have hsls := F.sub_tuple_set
          have hslf := F.sub_tuple_frozenset
          have hne : (Value.type "tuple" == Value.type "dict") = false := by decide
          have hl1 : (s.heap.push (newSet w)).IsTuple l items := ⟨_, hol', rfl, nl, rfl⟩
          unfold Builtin.«set.__init__» noKeywords Builtin.Frozenset.updateFrom
          generalize hPI : pyIter = PI
          wp_walk
          subst hPI
          refine wpAny_pyIter_tuple hl1 ?_
          refine wpAny_bind (wpAny_runValue ?_)
          have hlS : l < s.heap.objs.size := Heap.lt_size hol
          have hh3 : A.in1.in1.in1.handled = none := by simp [hh]
          have hneI : l ≠ (s.heap.push (newSet w)).objs.size := by rw [Heap.size_push]; exact Nat.ne_of_lt (Nat.lt_succ_of_lt hlS)
          refine hloop _ (by simp [hh]) (by simp) _ _ _ _ _ _ ?_ ((Walks.tuple hh3 _ l hneI items).toS) ⟨⟨_, Heap.get?_push_size _ rfl, rfl, rfl⟩, (hl1.push _)⟩ (Heap.get?_push_of_some _ hS) (fun b o e => Heap.get?_push_of_some _ (Heap.get?_push_of_some _ e)) (fun b hb => ?_) fun s' hm hp => ?_
          · rw [Heap.size_push]; simp only [List.mem_cons, List.not_mem_nil, or_false, not_or]
            exact ⟨Nat.ne_of_lt (Nat.lt_succ_self _), Nat.ne_of_gt hlS⟩
          · rw [Heap.size_push] at hb
            have hb := List.mem_singleton.mp hb
            rw [hb]
            cases q : s.heap.get? (s.heap.objs.size + 1) with
            | none => rfl
            | some o => exact absurd (Heap.lt_size q) (Nat.not_lt_of_le (Nat.le_succ _))
          · obtain ⟨h', g', d', tk', os'⟩ := s'
            have eg : g' = s.gens := hm.gens
            have ed : d' = s.drawn := hm.drawn
            have eo : os' = s.os := hm.os
            subst eg; subst ed; subst eo
            refine wpAny_pure ?_
            show wpAny _ _ (ret Value.none) _ _ _
            refine wpAny_pure ⟨rfl, h', tk', rfl, hp, fun b o e => ?_⟩
            have hb0 : b < s.heap.objs.size := Heap.lt_size e
            refine hm.heap b o ?_ (Heap.get?_push_of_some _ (Heap.get?_push_of_some _ e))
            rw [Heap.size_push]; simp only [List.mem_cons, List.not_mem_nil, or_false, not_or]
            exact ⟨Nat.ne_of_lt hb0, Nat.ne_of_lt (Nat.lt_succ_of_lt hb0)⟩
      · cases r₂ with
        | error e => exact hr₂
        | ok fl₂ =>
          cases fl₂ with
          | ret r =>
            obtain ⟨rfl, h', tk, rfl, hp, hk'⟩ := hr₂
            repeat (any_goals (first | assumption | wp_step))
            exact h _ _ hp hk'
          | _ => exact hr₂.elim
    | _ => exact hr.elim
theorem loop_ints {A' : Around} {h0 : Heap} {items : Array Value} {ns : List Int} (hit : IntsAre items.toList ns) (hb : ns.length + 1 < scanBound) :
    SetLoop P w A' h0 items fun h' => ∃ n, n ≤ ns.length ∧ SetR w h' h0.objs.size (fun j => decide (j ∈ ns)) n := fun I s1 St fp wr R hSf W hst hnew _ _ hR => by
  have hisz : items.size = ns.length := by
    have q := IntsAre.length hit
    rwa [Array.length_toList] at q
  refine set_update_ints W h0.objs.size hSf ns hisz hb (fun i v hv => ?_) (items.size - 0) 0 s1 (by omega) (Nat.zero_le _) hst ⟨0, Nat.le_refl 0, setR_new_at hnew⟩ fun s' c hm hc hS => hR s' hm ⟨c, by omega, hS⟩
  have hi : i < ns.length := by rw [← hisz]; exact (Array.getElem?_eq_some_iff.mp hv).1
  obtain ⟨t, e⟩ := PyProof.Rows.IntsAre.int_at hit i v (by rw [Array.getElem?_toList]; exact hv)
  refine ⟨ns[i], t, List.getElem?_eq_getElem hi, ?_⟩
  rw [e, List.getD_eq_getElem?_getD, List.getElem?_eq_getElem hi]
  rfl
theorem sorted_setI {a : Addr} {S : Int → Bool} {n : Nat} {Q : Value → Shared → Prop} (R : SetR w s.heap a S n) (hh : A.handled = none)
    (hQ : ∀ s' p (out : Array Value) (c : Nat) (ns : List Int), (∀ b o, s.heap.get? b = some o → s'.heap.get? b = some o) → s'.gens = s.gens → s'.os = s.os → s.heap.objs.size ≤ p →
      s'.heap.get? p = some (seqObj "list" out c) → IntsAre out.toList ns → ns.Pairwise (· < ·) → (∀ k, k ∈ ns ↔ S k = true) → Q (.ref p) s') :
    wpAny (model P w) A (call (.builtin "sorted") [.ref a]) Q E s := by
  obtain ⟨o, es, ep, t, ho, hex, hd, g, nd, hm, hb, hf, hn, hr, hl⟩ := R
  refine Calls.call_function_entry kind_sorted plain_sorted entry_sorted (args_sorted1 _) ?_
  unfold Builtin.«sorted»
  refine wpAny_bind (m := checkCount "sorted" 1 1 _) (wpAny_pure ?_)
  refine wpAny_bind (collect_set (A := A.in1) hh ⟨o, ho, hex.1, hd⟩ hf hb hr hl fun s1 vs k1 hz g1 o1 pm => ?_)
  have hvl : vs.length = es.size := by rw [pm.length_eq, List.length_map, Array.length_toList]
  have hvz : vs.length ≤ sizeLine := by
    rw [hvl, sizeLine_eq]
    unfold scanBound at hb
    omega
  have hI : IntsAre vs (vs.map SrtO.iv) := SrtO.ints_iv fun v hv => by
    obtain ⟨e, he, q⟩ := List.mem_map.mp (pm.mem_iff.mp hv)
    obtain ⟨k, tk, h1, _⟩ := g e he
    exact ⟨k, tk, by rw [← q]; exact h1⟩
  have pk : (vs.map SrtO.iv).Perm (es.toList.map keyOf) := by
    have q := pm.map SrtO.iv
    rw [List.map_map] at q
    have e : es.toList.map (SrtO.iv ∘ fun x => x.2) = es.toList.map keyOf := List.map_congr_left fun x hx => by
      obtain ⟨k, tk, h1, _⟩ := g x hx
      unfold keyOf
      show SrtO.iv x.2 = _
      rw [h1]
      rfl
    rwa [e] at q
  refine wpAny_bind (wpAny_newList ?_ hvz)
  have hoL : (s1.heap.push (seqObj "list" vs.toArray 0)).get? s1.heap.objs.size = some (seqObj "list" vs.toArray 0) := Heap.get?_push_size _ rfl
  refine wpAny_bind (wpAny_holding (wpAny_call_entry slot_list_sort ⟨_, hoL, rfl⟩ entry_list_sort (SrtO.list_sort_ord SrtO.swo_int hoL hvz (fun h2 => SrtO.ints_sortable hI h2) fun out a1 a2 => ⟨_, rfl, ?_⟩) (args_list_sort _)))
  obtain ⟨b1, b2, b3⟩ := SrtO.ints_out hI a1 a2
  obtain ⟨c, hc⟩ := sortedHeap_at (vs := vs) (out := out.toArray) hoL
  have pn := b2.trans pk
  refine wpAny_pure ⟨_, rfl, hQ _ s1.heap.objs.size out.toArray c (out.map SrtO.iv) (fun b u e => ?_) g1 o1 hz hc (by simpa using b1) (lt_of_le_nodup _ b3 (pn.nodup_iff.mpr nd)) fun k => by rw [pn.mem_iff, ← hm k]⟩
  have q := k1 b u e
  have hlt := Heap.lt_size q
  show (sortedHeap (s1.heap.push (seqObj "list" vs.toArray 0)) s1.heap.objs.size vs out.toArray).get? b = some u
  rw [sortedHeap_old (Nat.ne_of_lt hlt) (by rw [Heap.size_push]; exact Nat.lt_succ_of_lt hlt)]
  exact Heap.get?_push_of_some _ q
end
def insU (x : Int) : List Int → List Int
  | [] => [x]
  | y :: l => if x < y then x :: y :: l else if x = y then y :: l else y :: insU x l
def sortU : List Int → List Int
  | [] => []
  | x :: l => insU x (sortU l)
theorem insU_mem {x k : Int} : ∀ {l : List Int}, k ∈ insU x l ↔ k = x ∨ k ∈ l
  | [] => by simp [insU]
  | y :: l => by
    unfold insU
    split
    · simp
    · split
      · rename_i e
        subst e
        simp
      · rw [List.mem_cons, insU_mem, List.mem_cons]
        constructor
        · rintro (h | h | h)
          · exact .inr (.inl h)
          · exact .inl h
          · exact .inr (.inr h)
        · rintro (h | h | h)
          · exact .inr (.inl h)
          · exact .inl h
          · exact .inr (.inr h)
theorem insU_up {x : Int} : ∀ {l : List Int}, l.Pairwise (· < ·) → (insU x l).Pairwise (· < ·)
  | [], _ => by simp [insU]
  | y :: l, h => by
    obtain ⟨h1, h2⟩ := List.pairwise_cons.mp h
    unfold insU
    split
    · rename_i e
      refine List.pairwise_cons.mpr ⟨fun z hz => ?_, h⟩
      rcases List.mem_cons.mp hz with rfl | hz
      · exact e
      · have := h1 z hz; omega
    · split
      · exact h
      · refine List.pairwise_cons.mpr ⟨fun z hz => ?_, insU_up h2⟩
        rcases insU_mem.mp hz with rfl | hz
        · omega
        · exact h1 z hz
theorem sortU_mem {k : Int} : ∀ {l : List Int}, k ∈ sortU l ↔ k ∈ l
  | [] => by simp [sortU]
  | x :: l => by rw [sortU, insU_mem, List.mem_cons, sortU_mem]
theorem sortU_up : ∀ l : List Int, (sortU l).Pairwise (· < ·)
  | [] => List.Pairwise.nil
  | x :: l => insU_up (sortU_up l)
theorem up_uniq : ∀ {xs ys : List Int}, xs.Pairwise (· < ·) → ys.Pairwise (· < ·) → (∀ k, k ∈ xs ↔ k ∈ ys) → xs = ys
  | [], [], _, _, _ => rfl
  | [], y :: ys, _, _, h => absurd ((h y).mpr List.mem_cons_self) (by simp)
  | x :: xs, [], _, _, h => absurd ((h x).mp List.mem_cons_self) (by simp)
  | x :: xs, y :: ys, hx, hy, h => by
    obtain ⟨a1, a2⟩ := List.pairwise_cons.mp hx
    obtain ⟨b1, b2⟩ := List.pairwise_cons.mp hy
    have e : x = y := by
      have p := (h x).mp List.mem_cons_self
      have q := (h y).mpr List.mem_cons_self
      rcases List.mem_cons.mp p with p | p
      · exact p
      · rcases List.mem_cons.mp q with q | q
        · exact q.symm
        · have := b1 x p
          have := a1 y q
          omega
    subst e
    rw [up_uniq a2 b2 fun k => ?_]
    constructor
    · intro hk
      rcases List.mem_cons.mp ((h k).mp (List.mem_cons_of_mem _ hk)) with e | e
      · have := a1 k hk; omega
      · exact e
    · intro hk
      rcases List.mem_cons.mp ((h k).mpr (List.mem_cons_of_mem _ hk)) with e | e
      · have := b1 k hk; omega
      · exact e
theorem sortU_len : ∀ l : List Int, (sortU l).length ≤ l.length
  | [] => Nat.le_refl _
  | x :: l => by
    have h := sortU_len l
    have k : ∀ m : List Int, (insU x m).length ≤ m.length + 1 := by
      intro m
      induction m with
      | nil => exact Nat.le_refl _
      | cons y m ih =>
        unfold insU
        split
        · simp
        · split
          · simp
          · simp; exact ih
    have := k (sortU l)
    rw [sortU, List.length_cons]
    omega
def setI (d : D) : Option (List Int) := match d with
  | .list ds => ints? ds
  | .tuple ds => ints? ds
  | _ => none
def ssetD (d : D) : Option Rs := (setI d).bind fun ns => if ns.length + 1 < 4096 then some (.own ((sortU ns).map .int)) else none
theorem seq_ints {K : Fg} {H F : Hp} {d : D} {x : V} {ns : List Int} (hF : Le F H) (hd : RdD K H F d x) (h : setI d = some ns) : ∃ (a : Addr) (c : Bool), x = .ref a ∧ SqC K H c a (ns.map V.int) := by
  cases d with
  | list ds =>
    have e := ints?_eq (show ints? ds = some ns from h)
    subst e
    obtain ⟨a, vs, rfl, ha, r⟩ := hd.list hF
    rw [r.ints] at ha
    exact ⟨a, false, rfl, .inl (.inl ha)⟩
  | tuple ds =>
    have e := ints?_eq (show ints? ds = some ns from h)
    subst e
    obtain ⟨a, vs, rfl, ha, r⟩ := hd.tuple hF
    rw [r.ints] at ha
    exact ⟨a, true, rfl, ha⟩
  | _ => cases h
section
variable {X : Cx} {S : Type} [StK S] {a : Expr} {ta : OW S} {k : Nat} {p p2 q pos : Pos}
theorem ce_sortedSet (O : XO X k) (hm : X.mg "sorted" = none) (hm2 : X.mg "set" = none) (ha : CO X a ta) (hg : Gl X "sorted" := by rfl) (hg2 : Gl X "set" := by rfl)
    (na : starEach [a] X.env = (false, eval a X.env) :: starEach [] X.env := by rfl) : CE (S := S) X (.Call (.Name "sorted" p) [.Call (.Name "set" p2) [a] [] q] [] pos) (dUn ssetD ta) := by
  refine ⟨fun pins s σ H Q I h => ?_⟩
  have h' := un_step h
  refine Call_ (ld_blt I hg hm b_sorted ?_)
  refine PyProof.Rows.callWith_builtin1 (PyProof.Rows.args_cons ?_ rfl) rfl rfl
  refine Call_ (ld_blt I hg2 hm2 PyProof.Rows.boot_set ?_)
  refine PyProof.Rows.callWith_type1 (PyProof.Rows.args_cons (thn (ha.run pins s σ H _ I h') fun v s1 ⟨x, H1, I1, r1, q1⟩ => PyProof.Rows.args_nil ?_) na) na rfl
  obtain ⟨F, d, r, ⟨hz, hF⟩, hd, hg, qq⟩ := q1
  obtain ⟨ns, e1, e2⟩ := Option.bind_eq_some_iff.mp hg
  obtain ⟨hlen, rfl⟩ := some_ite e2
  obtain ⟨l, c, rfl, hq⟩ := seq_ints hF hd e1
  cases r1
  obtain ⟨its, rv, st, hl⟩ := seqC I1 hq
  have hi : IntsAre its.toArray.toList ns := by simpa using rv.ints
  refine call_set_seq (I1.ok.hd O.calm) st (fun A' _ _ => loop_ints hi hlen) fun h' tk ⟨n, hn, hS⟩ hk => ?_
  refine PyProof.Rows.args_nil ?_
  have I2 : Inv X pins σ H1 { s1 with heap := h', toks := tk } := I1.kept hk
  refine sorted_setI (s := { s1 with heap := h', toks := tk }) hS (I2.ok.hd O.calm) fun s' p out c ns' k1 g1 o1 hz1 hob hints hup hmem => ?_
  have hu : ns' = sortU ns := up_uniq hup (sortU_up ns) fun k => by rw [hmem k, sortU_mem]; simp
  subst hu
  obtain ⟨h2, g2, d2, t2, os2⟩ := s'
  have eg : g2 = s1.gens := g1
  have eo : os2 = s1.os := o1
  subst eg; subst eo
  have hp : H1 p = none := I2.hok.fresh hz1
  have hl2 : ((sortU ns).map V.int).length ≤ sizeLine := by
    have := sortU_len ns
    rw [List.length_map, sizeLine_eq]
    omega
  have I3 : Inv X pins σ (upd H1 p (.lst ((sortU ns).map V.int))) ⟨h2, s1.gens, d2, t2, s1.os⟩ := Inv.call (s := { s1 with heap := h', toks := tk }) (h' := h2) (ch := []) I2 (Un.laid k1 hz1 hp) (I2.hok.laid (o := .lst ((sortU ns).map V.int)) k1 hz1 ⟨hl2, out.toList, c, vals_of_ints hints, by simpa using hob⟩) I2.bare (fun _ z => nomatch z)
  exact ⟨.ref p, _, I3, rfl, qq _ _ (DRs.of_ints _) hl2 hp⟩
end
end Dk
namespace Dk
open PySem PySem.Spec PyProof.Rows L2
@[simp↓] theorem g_sset {ns : List Int} {k : Rs → Prop} : gets (ssetD (.list (ns.map .int))) k = (ns.length + 1 < 4096 ∧ k (.own ((sortU ns).map .int))) := by
  show gets ((ints? (ns.map .int)).bind _) k = _
  rw [ints?_map]
  exact g_ite
end Dk
namespace Dk
open PySem PySem.Spec PyProof.Rows L2
structure OKind (P : Program) (w : World) (κ : Type) [DecidableEq κ] where
  is : Heap → κ → Addr → Prop
  hash : κ → Int
  draws : κ → Nat
  room : Around → Prop
  keep : ∀ {h h' : Heap} {k : κ} {b : Addr}, is h k b → (∀ c o vs n, h.get? c = some o → o.data = .seq vs n → h'.get? c = some o) → is h' k b
  pyHash : ∀ {A : Around} {E : Value → Shared → Prop} {s : Shared} {k : κ} {b : Addr} {Q : Int → Shared → Prop}, room A → is s.heap k b → Q (hash k) { s with toks := s.toks + draws k } → wpAny (model P w) A (PySem.pyHash (.ref b)) Q E s
  eq : ∀ {A : Around} {E : Value → Shared → Prop} {s : Shared} {x y : κ} {a b : Addr} {Q : Bool → Shared → Prop}, room A → is s.heap x a → is s.heap y b → Q (decide (x = y)) s → wpAny (model P w) A (eqBool (.ref a) (.ref b)) Q E s
  seen : ∀ {A : Around} {E : Value → Shared → Prop} {s : Shared} {k : κ} {b : Addr} {ys : List Value} {Q : Bool → Shared → Prop}, is s.heap k b → (∀ y ∈ ys, ∃ k' c, y = Value.ref c ∧ is s.heap k' c) → Q false s → wpAny (model P w) A (searchCouldBeSeen (.ref b) ys) Q E s
  byv : ∀ {A : Around} {E : Value → Shared → Prop} {s : Shared} {k : κ} {b : Addr} {Q : Bool → Shared → Prop}, is s.heap k b → (∀ f, Q f s) → wpAny (model P w) A (hashByValue 8 (.ref b)) Q E s
section
variable {P : Program} {w : World} {κ : Type} [DecidableEq κ]
namespace OKind
variable (O : OKind P w κ)
def line (p : Addr × κ) : Int × Value := (O.hash p.2, .ref p.1)
structure InSet (h : Heap) (a : Addr) (L : List (Addr × κ)) (es : Array (Int × Value)) (ep : Nat) (t : SetTable) : Prop where
  ob : ∃ o, h.get? a = some o ∧ o.ExactSet ∧ o.data = .set es ep t
  rows : es.toList = L.map O.line
  tab : TabOk t (L.map fun p => O.hash p.2)
  nd : (L.map (·.2)).Nodup
  own : ∀ p ∈ L, O.is h p.2 p.1
  led : w.params.followText "set-order" = true ∨ t.led = true
  room : L.length * 5 < t.mask * 3
  few : L.length < 64
end OKind
variable {O : OKind P w κ} {A : Around} {E : Value → Shared → Prop} {s : Shared} {a : Addr} {L : List (Addr × κ)} {es : Array (Int × Value)} {ep : Nat} {t : SetTable}
theorem lines_len (h : es.toList = L.map O.line) : es.size = L.length := by
  have e := congrArg List.length h
  rwa [Array.length_toList, List.length_map] at e
theorem lines_at (h : es.toList = L.map O.line) {i : Nat} {p : Addr × κ} (e : L[i]? = some p) : es[i]? = some (O.line p) := by
  rw [← Array.getElem?_toList, h, List.getElem?_map, e, Option.map_some]
theorem fits_of (h1 : t.place.size = es.size) (h2 : t.dummies = #[]) (h3 : es.size ≤ t.mask) : t.fits es.size = true := by
  unfold SetTable.fits SetTable.fill
  rw [h2, h1, Bool.and_eq_true, beq_iff_eq, decide_eq_true_eq]
  exact ⟨rfl, h3⟩
theorem OKind.InSet.size (R : O.InSet s.heap a L es ep t) : es.size = L.length := lines_len R.rows
theorem OKind.InSet.place (R : O.InSet s.heap a L es ep t) : t.place.size = L.length := by rw [R.tab.sz, List.length_map]
theorem OKind.InSet.fits (R : O.InSet s.heap a L es ep t) : t.fits es.size = true :=
  fits_of (by rw [R.place, R.size]) R.tab.dm (by have := R.size; have := R.room; omega)
theorem OKind.InSet.gw (R : O.InSet s.heap a L es ep t) : ¬ t.gaveWay = true := by
  unfold SetTable.gaveWay
  rw [mask_odd R.tab.mok]
  decide
theorem nth_dummy (m : Nat) : ∀ (n : Nat) (p : SetTable.Probe), p.dummy = none → (nth m p n).dummy = none
  | 0, _, h => h
  | n + 1, p, h => nth_dummy m n (adv m p) (by unfold adv; split <;> exact h)
abbrev beg (m : Nat) (h : Int) : SetTable.Probe := runAt m (SetTable.bits h % (m + 1)) (SetTable.bits h)
theorem way_from (m : Nat) (h : Int) (c q : Nat) : (nth m (nth m (beg m h) c) q).j = way m h (c + q) := congrArg SetTable.Probe.j (nth_add m c (beg m h) q).symm
theorem look_from (R : O.InSet s.heap a L es ep t) {x : Addr} {k : κ} (hx : O.is s.heap k x) (hu : O.room A) {K : Nat} (hKf : K < 10 * SetTable.turns t.mask)
    (hK : way t.mask (O.hash k) K ∉ t.place.toList) (hKb : ∀ c, c < K → way t.mask (O.hash k) c ∈ t.place.toList) {Q : SetFound → Shared → Prop}
    (yes : k ∈ L.map (·.2) → Q (.there none) s) (no : k ∉ L.map (·.2) → Q (.free (way t.mask (O.hash k) K) false) s) :
    ∀ (f c : Nat) (st : Option SetTable.Probe), st.getD (t.probeStart (O.hash k)) = nth t.mask (beg t.mask (O.hash k)) c → c ≤ K → K < f + c →
      (∀ (i : Nat) p, L[i]? = some p → p.2 = k → ∃ c', c ≤ c' ∧ c' < K ∧ t.place.toList[i]? = some (way t.mask (O.hash k) c')) →
      wpAny (model P w) A (setSearchFrom a (.ref x) (O.hash k) true f st) Q E s := by
  intro f
  induction f with
  | zero => exact fun c st _ h1 h2 _ => absurd h2 (by omega)
  | succ f ih =>
    intro c st hst hc hf hre
    generalize hH : O.hash k = H at hKf hK hKb no hst hre ih ⊢
    obtain ⟨o, ho, _, hd⟩ := R.ob
    rw [setSearchFrom_succ]
    refine wpAny_bind (wpAny_setState_of ho hd R.fits ?_)
    dsimp only
    refine wp_if_neg R.gw ?_
    try refine wpAny_bind (wpAny_pure ?_)
    have dn := nth_dummy t.mask c (beg t.mask H) rfl
    have hat : ∀ (i : Nat) p, L[i]? = some p → (es[i]?.map (·.1)).getD 0 = O.hash p.2 := fun i p hp => by
      rw [lines_at R.rows hp]
      rfl
    have found := go_spec t R.tab.ris R.tab.dm (fun i => (es[i]?.map (·.1)).getD 0) H (10 * SetTable.turns t.mask) (K - c) _ dn (by omega)
      (fun q hq => by rw [way_from]; exact hKb (c + q) (by omega)) (by rw [way_from, show c + (K - c) = K by omega]; exact hK)
    rcases found with ⟨q, i, hq, hi, _, hno, hpr⟩ | ⟨hno, hpr⟩
    · rw [way_from] at hi hpr
      rw [← nth_add] at hpr
      have hpr' : t.probe (fun i => (es[i]?.map (·.1)).getD 0) H (st.getD (t.probeStart H)) = some (.candidate (way t.mask H (c + q)) i (nth t.mask (beg t.mask H) (c + (q + 1)))) := by
        rw [hst]
        exact hpr
      rw [hpr']
      dsimp only
      have hil : i < L.length := by
        have h1 := (List.getElem?_eq_some_iff.mp hi).1
        rw [Array.length_toList, R.place] at h1
        exact h1
      obtain ⟨p, hp⟩ : ∃ p, L[i]? = some p := ⟨_, List.getElem?_eq_getElem hil⟩
      have hm : p ∈ L := List.mem_of_getElem? hp
      have go : wpAny (model P w) A (searchRest a (.ref x) H true f es t (way t.mask H (c + q)) i (nth t.mask (beg t.mask H) (c + (q + 1)))) Q E s := by
        unfold searchRest
        rw [lines_at R.rows hp]
        dsimp only [OKind.line]
        refine wpAny_bind (wpAny_holding (O.eq hu (R.own p hm) hx ?_))
        refine wpAny_bind (wpAny_setState_of ho hd R.fits ?_)
        dsimp only
        by_cases e : p.2 = k
        · exact wp_if_pos (by simp [e]) (wpAny_pure (yes (List.mem_map.mpr ⟨p, hm, e⟩)))
        · refine wp_if_neg (by simp [e]) ?_
          try refine wpAny_bind (wpAny_pure ?_)
          rw [sameMem]
          dsimp only
          have live : t.slot (way t.mask H (c + q)) = .live i := slot_live R.tab.ris hi
          simp only [if_true, live, lines_at R.rows hp, OKind.line]
          refine wpAny_bind (wpAny_isSame_ref_self (wpAny_bind (wpAny_pure ?_)))
          simp only [if_true]
          refine wp_if_neg (by simp [e]) ?_
          refine ih (c + (q + 1)) _ rfl (by omega) (by omega) fun j p' hp' hk' => ?_
          obtain ⟨c', a1, a2, a3⟩ := hre j p' hp' hk'
          refine ⟨c', ?_, a2, a3⟩
          have n1 : ¬ c' < c + q := fun z => hno (c' - c) j (by omega) (by rw [way_from, show c + (c' - c) = c' by omega]; exact a3) (by
            show (es[j]?.map (·.1)).getD 0 = H
            rw [hat j p' hp', hk', hH])
          have n2 : c' ≠ c + q := fun z => by
            subst z
            have l2 := slot_live R.tab.ris a3
            rw [live] at l2
            injection l2 with l2
            rw [← l2, hp] at hp'
            exact e ((congrArg Prod.snd (Option.some.inj hp')).trans hk')
          omega
      by_cases hl : t.led = true
      · refine wp_if_neg (by simp [hl]) ?_
        try refine wpAny_bind (wpAny_pure ?_)
        exact go
      · refine wp_if_pos (by simp [hl]) ?_
        refine wpAny_bind (O.seen hx (fun y hy => ?_) (wp_if_neg (by decide) ?_))
        · obtain ⟨e, he, rfl⟩ := List.mem_map.mp hy
          have he1 : e ∈ es ∧ e.1 = H := by simpa using he
          have he2 : e ∈ es.toList := by simpa using he1.1
          rw [R.rows] at he2
          obtain ⟨p2, hp2, rfl⟩ := List.mem_map.mp he2
          exact ⟨p2.2, p2.1, rfl, R.own p2 hp2⟩
        · try refine wpAny_bind (wpAny_pure ?_)
          exact go
    · rw [way_from, show c + (K - c) = K by omega] at hpr
      have hpr' : t.probe (fun i => (es[i]?.map (·.1)).getD 0) H (st.getD (t.probeStart H)) = some (.empty (way t.mask H K) none) := by
        rw [hst]
        exact hpr
      rw [hpr']
      dsimp only
      refine wpAny_pure (no fun hm => ?_)
      obtain ⟨p0, h0, hk0⟩ := List.mem_map.mp hm
      obtain ⟨j, hj⟩ := List.mem_iff_getElem?.mp h0
      obtain ⟨c', a1, a2, a3⟩ := hre j p0 hj hk0
      exact hno (c' - c) j (by omega) (by rw [way_from, show c + (c' - c) = c' by omega]; exact a3) (by
        show (es[j]?.map (·.1)).getD 0 = H
        rw [hat j p0 hj, hk0, hH])
theorem look_at (R : O.InSet s.heap a L es ep t) {x : Addr} {k : κ} (hx : O.is s.heap k x) (hu : O.room A) {Q : SetFound → Shared → Prop}
    (yes : k ∈ L.map (·.2) → Q (.there none) s)
    (no : ∀ K, k ∉ L.map (·.2) → way t.mask (O.hash k) K ∉ t.place.toList → (∀ c, c < K → way t.mask (O.hash k) c ∈ t.place.toList) → Q (.free (way t.mask (O.hash k) K) false) s) :
    wpAny (model P w) A (setSearch a (.ref x) (O.hash k) true) Q E s := by
  obtain ⟨K, k1, k2, k3⟩ := R.tab.first (by rw [List.length_map]; have := R.room; omega) (O.hash k)
  have big : K < 100000 := by
    have : SetTable.turns t.mask ≤ 142 := by
      unfold SetTable.turns
      rcases R.tab.mok with e | e | e <;> omega
    omega
  unfold setSearch
  refine look_from R hx hu k1 k2 k3 yes (fun hn => no K hn k2 k3) 100000 0 none rfl (Nat.zero_le _) (by omega) fun i p hp hk => ?_
  have hi : (L.map fun p => O.hash p.2)[i]? = some (O.hash k) := by rw [List.getElem?_map, hp, ← hk]; rfl
  have hil : i < t.place.toList.length := by
    rw [Array.length_toList, R.place]
    exact (List.getElem?_eq_some_iff.mp hp).1
  have hj := List.getElem?_eq_getElem hil
  obtain ⟨c, hc, e⟩ := R.tab.before k2 hi hj
  exact ⟨c, Nat.zero_le _, hc, by rw [hj, e]⟩
theorem OKind.same_but {h h' : Heap} {k : κ} {b : Addr} {o : Obj} (hb : O.is h k b) (ho : h.get? a = some o) (hd : o.data = .set es ep t) (hs : Heap.SameBut a h h') : O.is h' k b :=
  O.keep hb fun c o' vs n hc hdc => (hs.2 c (by
    rintro rfl
    rw [ho] at hc
    cases hc
    rw [hd] at hdc
    cases hdc)).trans hc
theorem reorder (order : Array Nat) (hr : es.toList = L.map O.line) (hp : order.toList.Perm (List.range L.length)) :
    ∃ M2 : List (Addr × κ), (order.filterMap (es[·]?)).toList = M2.map O.line ∧ M2.Perm L ∧ (M2.map fun p => O.hash p.2) = order.toList.map fun i => (es.map (·.1)).getD i 0 := by
  have hlt : ∀ i ∈ order.toList, i < L.length := fun i hi => List.mem_range.mp (hp.mem_iff.mp hi)
  have one : ∀ i (h : i < L.length), es[i]? = some (O.line L[i]) := fun i h => lines_at hr (List.getElem?_eq_getElem h)
  have all : ∀ l : List Nat, (∀ i ∈ l, i < L.length) → l.filterMap (fun i => es[i]?) = (l.filterMap fun i => L[i]?).map O.line ∧ ((l.filterMap fun i => L[i]?).map fun p => O.hash p.2) = l.map fun i => (es.map (·.1)).getD i 0 := by
    intro l
    induction l with
    | nil => exact fun _ => ⟨rfl, rfl⟩
    | cons i l ih =>
      intro hl
      obtain ⟨e1, e2⟩ := ih fun j hj => hl j (List.mem_cons_of_mem _ hj)
      have hi := hl i List.mem_cons_self
      rw [List.filterMap_cons_some (one i hi), List.filterMap_cons_some (List.getElem?_eq_getElem hi), List.map_cons, List.map_cons, List.map_cons, e1, e2]
      refine ⟨rfl, ?_⟩
      congr 1
      have e5 : (es.map (·.1))[i]? = some (O.hash L[i].2) := by rw [Array.getElem?_map, one i hi]; rfl
      simp [Array.getD_eq_getD_getElem?, e5]
  obtain ⟨e1, e2⟩ := all order.toList hlt
  refine ⟨_, ?_, ?_, e2⟩
  · rw [← e1]
    simp
  · refine (hp.filterMap _).trans ?_
    have : ∀ (X Y : List (Addr × κ)), (List.range' Y.length X.length).filterMap (fun i => (Y ++ X)[i]?) = X := by
      intro X
      induction X with
      | nil => exact fun _ => rfl
      | cons x X ih =>
        intro Y
        rw [List.length_cons, List.range'_succ, List.filterMap_cons_some (b := x) (by simp)]
        have := ih (Y ++ [x])
        rw [List.length_append, List.length_singleton, List.append_assoc, List.singleton_append] at this
        rw [this]
    have h2 := this L []
    rw [List.length_nil, List.nil_append, ← List.range_eq_range'] at h2
    rw [h2]
theorem lay_anew {o : Obj} (ho : s.heap.get? a = some o) (hex : o.ExactSet) (hd : o.data = .set es ep t) (hr : es.toList = L.map O.line) (hsz : t.place.size = es.size) (hdm : t.dummies = #[]) (hfl : es.size ≤ t.mask)
    (nd : (L.map (·.2)).Nodup) (own : ∀ p ∈ L, O.is s.heap p.2 p.1) (ld : w.params.followText "set-order" = true ∨ t.led = true) (few : L.length < 64) {wanted M : Nat}
    (hw : SetTable.sizeAbove wanted - 1 = M) (hM : MaskOk M) (hw2 : SetTable.sizeAbove wanted ≤ 128) (hn : L.length * 5 < M * 3) {Q : Unit → Shared → Prop}
    (hQ : ∀ h' L' es' ep' t', Heap.SameBut a s.heap h' → O.InSet h' a L' es' ep' t' → L'.Perm L → Q () { s with heap := h' }) : wpAny (model P w) A (setRelay a wanted) Q E s := by
  have hl := lines_len hr
  obtain ⟨t', order, e, hp, T, em, el, _, _⟩ := relaid_ok t (hs := es.map (·.1)) (wanted := wanted) hw hM (by rw [Array.size_map, hl]; omega)
  rw [Array.size_map, hl] at hp
  obtain ⟨L2, r1, r2, r3⟩ := reorder order hr hp
  rw [← r3] at T
  have hs2 : (order.filterMap (es[·]?)).size = es.size := by rw [lines_len r1, r2.length_eq, hl]
  rw [setRelay_eq]
  refine wpAny_bind (wpAny_setState_of ho hd (fits_of hsz hdm hfl) ?_)
  dsimp only
  refine wp_if_neg (by rw [sizeLine_eq]; omega) ?_
  try refine wpAny_bind (wpAny_pure ?_)
  rw [e]
  dsimp only
  refine wpAny_bind (wp_if_neg (by rw [hs2]; simp) ?_)
  try refine wpAny_bind (wpAny_pure ?_)
  refine wpAny_pure ?_
  dsimp only
  refine wpAny_storeSet_of ho hd ?_ (by rw [hs2, hl, sizeLine_eq]; omega)
  have sb : Heap.SameBut a s.heap (s.heap.update a (Obj.putSet (order.filterMap (es[·]?)) t')) := Heap.SameBut.update ..
  exact hQ _ L2 _ (ep + 1) t' sb ⟨⟨_, store_at ho hd, ⟨hex.1, hex.2.1, hex.2.2⟩, rfl⟩, r1, T, (r2.map (·.2)).nodup_iff.mpr nd, fun p hpm => O.same_but (own p (r2.mem_iff.mp hpm)) ho hd sb, by rw [el]; exact ld, by rw [r2.length_eq, em]; exact hn, by rw [r2.length_eq]; exact few⟩ r2
theorem put_in (R : O.InSet s.heap a L es ep t) {x : Addr} {k : κ} (hx : O.is s.heap k x) (hu : O.room A) (hfew : L.length + 1 < 64) {Q : Bool → Shared → Prop}
    (hQ : ∀ b h' L' es' ep' t', Heap.SameBut a s.heap h' → O.InSet h' a L' es' ep' t' → (k ∈ L.map (·.2) → L' = L) → (k ∉ L.map (·.2) → L'.Perm ((x, k) :: L)) → Q b { s with heap := h' }) :
    wpAny (model P w) A (setAddHashed a (.ref x) (O.hash k)) Q E s := by
  obtain ⟨o, ho, hex, hd⟩ := R.ob
  unfold setAddHashed
  refine wpAny_holding ?_
  rw [show (100000 : Nat) = 99999 + 1 from rfl, setAddHashedIn_succ]
  refine wpAny_bind (wpAny_setState_of ho hd R.fits ?_)
  dsimp only
  refine wp_if_neg (by simp [byScan, Value.scannable]) ?_
  try refine wpAny_bind (wpAny_pure ?_)
  refine wpAny_bind (look_at R hx hu (fun hm => ?_) fun K hm hK hb => ?_)
  · dsimp only
    exact wpAny_pure (hQ false s.heap L es ep t (Heap.SameBut.refl a s.heap) R (fun _ => rfl) fun z => absurd hm z)
  dsimp only
  refine wpAny_bind (wpAny_setState_of ho hd R.fits ?_)
  dsimp only
  obtain ⟨q1, q2, q3, q4, q5, q6, _, _, q9⟩ := R.tab.put hK hb
  generalize hpt : t.put (way t.mask (O.hash k) K) = pt at q1 q3 q4 q5 q6 q9 ⊢
  obtain ⟨t1, p⟩ := pt
  dsimp only at q1 q3 q4 q5 q6 q9 ⊢
  subst q1
  generalize SetTable.below t.place (way t.mask (O.hash k) K) = p at q2 q3 ⊢
  have hin : (SetTable.insertAt es p (O.hash k, Value.ref x)).toList = (L.take p ++ (x, k) :: L.drop p).map O.line := by
    rw [SetTable.toList_insertAt, R.rows, List.map_append, List.map_cons, List.map_take, List.map_drop]
    rfl
  have pm := put_perm L p (x, k)
  have hlen : (L.take p ++ (x, k) :: L.drop p).length = L.length + 1 := pm.length_eq
  have hhs : (L.take p ++ (x, k) :: L.drop p).map (fun p => O.hash p.2) = (L.map fun p => O.hash p.2).take p ++ O.hash k :: (L.map fun p => O.hash p.2).drop p := by
    rw [List.map_append, List.map_cons, List.map_take, List.map_drop]
  rw [← hhs] at q3
  have nd1 : ((L.take p ++ (x, k) :: L.drop p).map (·.2)).Nodup := (pm.map (·.2)).nodup_iff.mpr (by
    rw [List.map_cons]
    exact List.nodup_cons.mpr ⟨hm, R.nd⟩)
  have hes := lines_len hin
  rw [hlen] at hes
  generalize SetTable.insertAt es p (O.hash k, Value.ref x) = es1 at hin hes ⊢
  generalize L.take p ++ (x, k) :: L.drop p = L1 at pm hlen q3 nd1 hin
  have tail : ∀ t2 : SetTable, t2.place = t1.place → t2.dummies = t1.dummies → t2.mask = t1.mask → t2.led = t1.led → TabOk t2 (L1.map fun p => O.hash p.2) → t2.fill = t1.fill →
      wpAny (model P w) A (storeSet a es1 t2) (fun _ s' => wpAny (model P w) A (do
        if !false && t2.tooFull then setRelay a (SetTable.grown (es.size + 1))
        return true) Q E s') E s := by
    intro t2 e1 e2 e3 e4 T2 e5
    refine wpAny_storeSet_of ho hd ?_ (by rw [hes, sizeLine_eq]; omega)
    have sb : Heap.SameBut a s.heap (s.heap.update a (Obj.putSet es1 t2)) := Heap.SameBut.update ..
    have ho1 := store_at (es' := es1) (t' := t2) ho hd
    generalize s.heap.update a (Obj.putSet es1 t2) = h1 at sb ho1 ⊢
    have own1 : ∀ p ∈ L1, O.is h1 p.2 p.1 := fun p hp => by
      rcases List.mem_cons.mp (pm.mem_iff.mp hp) with e | hp
      · rw [e]; exact O.same_but hx ho hd sb
      · exact O.same_but (R.own p hp) ho hd sb
    have ld1 : w.params.followText "set-order" = true ∨ t2.led = true := by rw [e4, q5]; exact R.led
    have hroom := R.room
    have hsl := R.size
    have fl : t2.fill = L.length + 1 := by rw [e5, q9, List.length_map]
    have mk : t2.mask = t.mask := by rw [e3, q4]
    by_cases hf : t2.tooFull = true
    · first
        | (refine wpAny_bind ?_; refine wp_if_pos (by simp [hf]) ?_)
        | (refine wp_if_pos (by simp [hf]) ?_; refine wpAny_bind ?_)
      have hfull : (L.length + 1) * 5 ≥ t.mask * 3 := by
        have h := hf
        unfold SetTable.tooFull at h
        rw [decide_eq_true_eq, fl, mk] at h
        exact h
      rw [hsl]
      have hsz1 : t2.place.size = es1.size := by rw [T2.sz, List.length_map, hlen, hes]
      have go : ∀ M, SetTable.sizeAbove (SetTable.grown (L.length + 1)) - 1 = M → MaskOk M → SetTable.sizeAbove (SetTable.grown (L.length + 1)) ≤ 128 → (L.length + 1) * 5 < M * 3 → L.length + 1 ≤ t.mask →
          wpAny (model P w) A (setRelay a (SetTable.grown (L.length + 1))) (fun _ s' => wpAny (model P w) A (pure true) Q E s') E { s with heap := h1 } := fun M m1 m2 m3 m4 m5 => by
        refine lay_anew (s := { s with heap := h1 }) ho1 ⟨hex.1, hex.2.1, hex.2.2⟩ rfl hin hsz1 T2.dm (by rw [hes, mk]; exact m5) nd1 own1 ld1 (by rw [hlen]; exact hfew) m1 m2 m3 (by rw [hlen]; exact m4) ?_
        intro h2 L2 es2 ep2 t3 sb2 R2 pm2
        exact wpAny_pure (hQ true h2 L2 es2 ep2 t3 (sb.trans sb2) R2 (fun z => absurd z hm) fun _ => pm2.trans pm)
      rcases R.tab.mok with e | e | e
      · have e0 : L.length = 4 := by rw [e] at hfull hroom; omega
        exact go 31 (by rw [e0, size_20]) (.inr (.inl rfl)) (by rw [e0, size_20]; decide) (by omega) (by omega)
      · have e0 : L.length = 18 := by rw [e] at hfull hroom; omega
        exact go 127 (by rw [e0, size_76]) (.inr (.inr rfl)) (by rw [e0, size_76]; decide) (by omega) (by omega)
      · exfalso
        rw [e] at hfull
        omega
    · first
        | refine wp_if_neg (by simp [hf]) ?_
        | (refine wpAny_bind ?_; refine wp_if_neg (by simp [hf]) ?_; refine wpAny_pure ?_)
      refine wpAny_pure (hQ true h1 L1 es1 (ep + 1) t2 sb ⟨⟨_, ho1, ⟨hex.1, hex.2.1, hex.2.2⟩, rfl⟩, hin, T2, nd1, own1, ld1, ?_, by rw [hlen]; exact hfew⟩ (fun z => absurd z hm) fun _ => pm)
      have h := hf
      unfold SetTable.tooFull at h
      rw [decide_eq_true_eq, fl] at h
      rw [hlen]
      omega
  have two : ∀ f : Bool, wpAny (model P w) A (do
        let t2 := if f = true then t1 else { t1 with plain := false }
        storeSet a es1 t2
        if !false && t2.tooFull then setRelay a (SetTable.grown (es.size + 1))
        return true) Q E s := by
    intro f
    cases f with
    | true => exact wpAny_bind (tail t1 rfl rfl rfl rfl q3 rfl)
    | false => exact wpAny_bind (tail { t1 with plain := false } rfl rfl rfl rfl ⟨q3.ris, q3.dm, q3.sz, q3.mok, q3.bd, q3.reach⟩ rfl)
  by_cases hp1 : t1.plain = true
  · first
      | exact wpAny_bind (wp_if_pos hp1 (O.byv hx fun f => two f))
      | exact wp_if_pos hp1 (wpAny_bind (O.byv hx fun f => two f))
  · first
      | exact wpAny_bind (wp_if_neg hp1 (wpAny_pure (two true)))
      | exact wp_if_neg hp1 (wpAny_bind (wpAny_pure (two true)))
end
end Dk
namespace Dk
open PySem PySem.Spec PyProof.Rows L2
section
variable {κ : Type} [DecidableEq κ]
def getD' (kvs : List (κ × D)) (k : κ) : Option D := (kvs.find? fun kv => decide (kv.1 = k)).map (·.2)
def putD' (kvs : List (κ × D)) (k : κ) (d : D) : List (κ × D) :=
  if (kvs.any fun kv => decide (kv.1 = k)) = true then kvs.map (fun kv => if kv.1 = k then (kv.1, d) else kv) else kvs ++ [(k, d)]
variable {K : Fg} {F : Hp}
theorem PvR.nil : PvR K F ([] : List (κ × D)) [] := ⟨rfl, DRs.nil⟩
theorem PvR.cons_ {p : κ × D} {kvs : List (κ × D)} {vs : List (κ × V)} (h : PvR K F (p :: kvs) vs) : ∃ v r, vs = (p.1, v) :: r ∧ DR K F p.2 v ∧ PvR K F kvs r := by
  obtain ⟨h1, h2⟩ := h
  cases vs with
  | nil => simp at h1
  | cons q r =>
    obtain ⟨k, v⟩ := q
    simp only [List.map_cons, List.cons.injEq] at h1
    obtain ⟨e1, e2⟩ := h1
    subst e1
    rw [List.map_cons, List.map_cons] at h2
    obtain ⟨v', r', e, d1, d2⟩ := DRs.cons_.mp h2
    simp only [List.cons.injEq] at e
    obtain ⟨rfl, rfl⟩ := e
    exact ⟨v, r, rfl, d1, e2, d2⟩
theorem PvR.cons {k : κ} {d : D} {v : V} {kvs : List (κ × D)} {vs : List (κ × V)} (h : DR K F d v) (r : PvR K F kvs vs) : PvR K F ((k, d) :: kvs) ((k, v) :: vs) := ⟨by rw [List.map_cons, List.map_cons, r.1], .cons h r.2⟩
theorem PvR.len {kvs : List (κ × D)} {vs : List (κ × V)} (h : PvR K F kvs vs) : vs.length = kvs.length := by
  have := congrArg List.length h.1
  simpa using this
theorem PvR.get : ∀ {kvs : List (κ × D)} {vs : List (κ × V)} {k : κ}, PvR K F kvs vs → (∀ d, getD' kvs k = some d → ∃ v, valV vs k = some v ∧ DR K F d v) ∧ (getD' kvs k = none → valV vs k = none)
  | [], vs, k, h => by
    have : vs = [] := by cases vs with | nil => rfl | cons a b => have := h.1; simp at this
    subst this
    exact ⟨fun d e => by simp [getD'] at e, fun _ => rfl⟩
  | (k', d') :: kvs, vs, k, h => by
    obtain ⟨v, r, rfl, h1, h2⟩ := h.cons_
    by_cases e : k' = k
    · subst e
      refine ⟨fun d e => ?_, fun e => by simp [getD'] at e⟩
      simp [getD'] at e
      subst e
      exact ⟨v, valV_pos rfl, h1⟩
    · have ih := PvR.get (k := k) h2
      have e1 : getD' ((k', d') :: kvs) k = getD' kvs k := by simp [getD', List.find?_cons, e]
      rw [e1, valV_neg e]
      exact ih
theorem PvR.mapIf {k : κ} {d : D} {v : V} (hd : DR K F d v) : ∀ {kvs : List (κ × D)} {vs : List (κ × V)}, PvR K F kvs vs → PvR K F (kvs.map fun kv => if kv.1 = k then (kv.1, d) else kv) (vs.map fun kv => if kv.1 = k then (kv.1, v) else kv)
  | [], vs, h => by
    have : vs = [] := by cases vs with | nil => rfl | cons a b => have := h.1; simp at this
    subst this
    exact .nil
  | (k', d') :: kvs, vs, h => by
    obtain ⟨v', r, rfl, h1, h2⟩ := h.cons_
    have ih := PvR.mapIf (k := k) hd h2
    rw [List.map_cons, List.map_cons]
    by_cases e : k' = k
    · simp only [e, if_true]
      exact .cons hd ih
    · simp only [e, if_false]
      exact .cons h1 ih
theorem PvR.anyK {k : κ} : ∀ {kvs : List (κ × D)} {vs : List (κ × V)}, PvR K F kvs vs → (kvs.any fun kv => decide (kv.1 = k)) = (vs.any fun kv => decide (kv.1 = k))
  | [], vs, h => by
    have : vs = [] := by cases vs with | nil => rfl | cons a b => have := h.1; simp at this
    subst this
    rfl
  | (k', d') :: kvs, vs, h => by
    obtain ⟨v', r, rfl, h1, h2⟩ := h.cons_
    rw [List.any_cons, List.any_cons, PvR.anyK h2]
theorem PvR.put {k : κ} {d : D} {v : V} {kvs : List (κ × D)} {vs : List (κ × V)} (h : PvR K F kvs vs) (hd : DR K F d v) : PvR K F (putD' kvs k d) (putK vs k v) := by
  unfold putD' putK
  rw [h.anyK]
  split
  · exact h.mapIf hd
  · exact ⟨by rw [List.map_append, List.map_append, h.1]; rfl, by rw [List.map_append, List.map_append]; exact h.2.append (.cons hd .nil)⟩
end
def keyD : D → Option Key
  | .int i => some (.inl i)
  | .str x => some (.inr x)
  | _ => none
section
variable {K : Fg} {B : Bs} {pa : Option Addr} {zs : List (Option V)} {H F : Hp} {ws : List Sl} {pn : Sto}
end
section
variable {X : Cx} {pos p1 p2 : Pos} {x : Str} {k : Nat} {te : DW Sto} {u : OW Sto} {e b : Expr}
def dNewK (i : Nat) : DS Sto := fun E ρ => ∀ a, ρ.pn.ob a = none → ρ.pn.ls a = none → ρ.pn.dc a = none → E.nx ⟨ρ.sl.set i (.ref a), ρ.pn.putD a (.k [])⟩
def Dc.get : Dc → D → Option D
  | .k kvs, d => (keyD d).bind (getD' kvs)
  | _, _ => none
def dDGet (i : Nat) (t : OW Sto) : DW Sto := fun ρ P => gets (refS ρ.sl i) fun a => t ρ fun k ρ1 => gets (ρ1.pn.dc a) fun c => gets ((k.rd ρ1).bind c.get) fun d => P (.val d) ρ1
def dDPut (i : Nat) (t : OW Sto) (te : DW Sto) : DS Sto := fun E ρ => te ρ fun r ρ1 => gets (refS ρ1.sl i) fun a => t ρ1 fun k ρ2 => gets (ρ2.pn.dc a) fun c => match c with
  | .k kvs => gets ((k.rd ρ2).bind keyD) fun y => kvs.length < sizeLine ∧ E.nx ⟨ρ2.sl, ρ2.pn.putD a (.k (putD' kvs y r.d))⟩
  | _ => False
end
end Dk
namespace Dk
open PySem PySem.Spec PyProof.Rows L2
section
variable {S : Type} [StK S] {X : Cx} {tg a b c e : Expr} {ta tb : OW S} {t : OW S} {p p1 pos : Pos} {k : Nat} {te : DW S}
def dNever : DS S := fun _ _ => False
@[simp] theorem z_dNever {E : DE S} {ρ : En S} : dNever E ρ = False := rfl
def rangeDn (i : Int) (n : Nat) : List D := (List.range n).map fun m => .int (i - (m : Nat))
@[simp] theorem rangeDn_len {i : Int} {n : Nat} : (rangeDn i n).length = n := by simp [rangeDn]
def iRangeN (t u : OW S) : IW S := fun ρ P => t ρ fun k ρ1 => u ρ1 fun k2 ρ2 => gets ((k.rd ρ2).bind D.int?) fun i => gets ((k2.rd ρ2).bind D.int?) fun j => (-(2 ^ 62) ≤ i ∧ i < 2 ^ 62 ∧ -(2 ^ 62) ≤ j ∧ j < 2 ^ 62 ∧ i - j ≤ 16777216) ∧ P ⟨[], fun _ => some (rangeDn i (i - j).toNat)⟩ ρ2
@[simp↓] theorem z_iRangeN {s0 : Sl} {l0 : List Sl} {pn : S} {Pi : Sc → En S → Prop} : iRangeN ta tb ⟨s0 :: l0, pn⟩ Pi = ta ⟨s0 :: l0, pn⟩ fun k ρ1 => tb ρ1 fun k2 ρ2 => gets ((k.rd ρ2).bind D.int?) fun i => gets ((k2.rd ρ2).bind D.int?) fun j => (-(2 ^ 62) ≤ i ∧ i < 2 ^ 62 ∧ -(2 ^ 62) ≤ j ∧ j < 2 ^ 62 ∧ i - j ≤ 16777216) ∧ Pi ⟨[], fun _ => some (rangeDn i (i - j).toNat)⟩ ρ2 := rfl
def dExtend (i : Nat) (t : DW S) : DW S := fun ρ P => (own? ρ.sl i).isSome = true ∧ t ρ fun r ρ1 => match r with
  | .own ys => gets (own? ρ1.sl i) fun xs => xs.length + ys.length ≤ sizeLine ∧ P (.val .none) { ρ1 with sl := ρ1.sl.set i (.own (xs ++ ys)) }
  | _ => False
@[simp↓] theorem z_dExtend {i : Nat} {s0 : Sl} {l0 : List Sl} {pn : S} {P : Rs → En S → Prop} : dExtend i te ⟨s0 :: l0, pn⟩ P = ((own? (s0 :: l0) i).isSome = true ∧ te ⟨s0 :: l0, pn⟩ fun r ρ1 => match r with
  | .own ys => gets (own? ρ1.sl i) fun xs => xs.length + ys.length ≤ sizeLine ∧ P (.val .none) { ρ1 with sl := ρ1.sl.set i (.own (xs ++ ys)) }
  | _ => False) := rfl
end
section
variable {E : DE Sto} {s0 : Sl} {l0 : List Sl} {pn : Sto} {te : DW Sto} {t : OW Sto} {i : Nat} {P : Rs → En Sto → Prop} {a b : Addr} {c : Dc}
@[simp↓] theorem z_dNewK : dNewK i E ⟨s0 :: l0, pn⟩ = ∀ a, pn.ob a = none → pn.ls a = none → pn.dc a = none → E.nx ⟨(s0 :: l0).set i (.ref a), pn.putD a (.k [])⟩ := rfl
@[simp↓] theorem z_dDGet : dDGet i t ⟨s0 :: l0, pn⟩ P = gets (refS (s0 :: l0) i) fun a => t ⟨s0 :: l0, pn⟩ fun k ρ1 => gets (ρ1.pn.dc a) fun c => gets ((k.rd ρ1).bind c.get) fun d => P (.val d) ρ1 := rfl
@[simp↓] theorem z_dDPut : dDPut i t te E ⟨s0 :: l0, pn⟩ = te ⟨s0 :: l0, pn⟩ fun r ρ1 => gets (refS ρ1.sl i) fun a => t ρ1 fun k ρ2 => gets (ρ2.pn.dc a) fun c => match c with
  | .k kvs => gets ((k.rd ρ2).bind keyD) fun y => kvs.length < sizeLine ∧ E.nx ⟨ρ2.sl, ρ2.pn.putD a (.k (putD' kvs y r.d))⟩
  | _ => False := rfl
theorem dc_same : (pn.putD a c).dc a = some c := if_pos rfl
@[simp↓] theorem g_dcSame {k : Dc → Prop} : gets ((pn.putD a c).dc a) k = k c := by rw [dc_same]; rfl
@[simp] theorem ls_putD : (pn.putD a c).ls b = pn.ls b := rfl
@[simp] theorem ob_putD : (pn.putD a c).ob b = pn.ob b := rfl
@[simp] theorem pen_putD : (pn.putD a c).pen = pn.pen := rfl
@[simp↓] theorem g_keyI {z : Int} {k : Key → Prop} : gets (keyD (.int z)) k = k (.inl z) := rfl
@[simp↓] theorem g_keyS {z : Str} {k : Key → Prop} : gets (keyD (.str z)) k = k (.inr z) := rfl
@[simp↓] theorem g_dcGet {kvs : List (Key × D)} {d : D} {k : D → Prop} : gets ((Dc.k kvs).get d) k = gets (keyD d) fun y => gets (getD' kvs y) k := by
  show gets ((keyD d).bind (getD' kvs)) k = _
  exact g_bind
end
end Dk
namespace Dk
open PySem PySem.Spec PyProof.Rows L2
mutual
def nkD : D → Option NestedKey
  | .none => some .none
  | .bool b => some (.num (if b = true then 1 else 0))
  | .int i => some (.num i)
  | .str x => some (.text x)
  | .tuple ds => (nksD ds).map .tup
  | .list _ => none
  | .dict _ => none
def nksD : List D → Option (List NestedKey)
  | [] => some []
  | d :: ds => (nkD d).bind fun k => (nksD ds).map (k :: ·)
end
section
variable {X : Cx} {pins : List (Addr × Obj)} {σ : L2.St} {H F : Hp} {s : Shared}
mutual
theorem nest_of (I : L2.Inv X pins σ H s) (hF : Le F H) : ∀ (d : D) (v : V) (u : Value) (k : NestedKey), DR X.K F d v → RelV v u → nkD d = some k → NestedIs s.heap k u
  | .none, v, u, k, h, r, e => by
    rw [nkD] at e
    cases e
    rw [DR.non_.mp h] at r
    cases r
    exact .none
  | .bool b, v, u, k, h, r, e => by
    rw [nkD] at e
    cases e
    rw [DR.bl_.mp h] at r
    cases r
    exact .bool rfl
  | .int i, v, u, k, h, r, e => by
    rw [nkD] at e
    cases e
    rw [DR.int_.mp h] at r
    obtain ⟨t, rfl⟩ := r
    exact .int i t
  | .str x, v, u, k, h, r, e => by
    rw [nkD] at e
    cases e
    rw [DR.str_.mp h] at r
    obtain ⟨t, rfl⟩ := r
    exact .text x t
  | .tuple ds, v, u, k, h, r, e => by
    rw [nkD] at e
    obtain ⟨ks, e1, rfl⟩ := Option.map_eq_some_iff.mp e
    obtain ⟨a, vs, rfl, q1, q2⟩ := DR.tuple_s h
    cases r
    obtain ⟨its, rv, ⟨o, ho, hc, n, hd⟩, _⟩ := I.tuple (hF.t q1)
    exact .tup ho hc hd (by simpa using nests_of I hF ds vs its ks q2 rv e1)
  | .list ds, v, u, k, h, r, e => by rw [nkD] at e; cases e
  | .dict kvs, v, u, k, h, r, e => by rw [nkD] at e; cases e
theorem nests_of (I : L2.Inv X pins σ H s) (hF : Le F H) : ∀ (ds : List D) (vs : List V) (us : List Value) (ks : List NestedKey), DRs X.K F ds vs → Vals vs us → nksD ds = some ks → NestedAll s.heap ks us
  | [], vs, us, ks, h, r, e => by
    rw [nksD] at e
    cases e
    rw [DRs.nil_.mp h] at r
    cases r
    exact .nil
  | d :: ds, vs, us, ks, h, r, e => by
    rw [nksD] at e
    obtain ⟨k, e1, e2⟩ := Option.bind_eq_some_iff.mp e
    obtain ⟨kr, e3, rfl⟩ := Option.map_eq_some_iff.mp e2
    obtain ⟨v, vr, rfl, h1, h2⟩ := DRs.cons_.mp h
    cases r with
    | cons r1 r2 => exact .cons (nest_of I hF d v _ k h1 r1 e1) (nests_of I hF ds vr _ kr h2 r2 e3)
end
end
end Dk
namespace Dk
open PySem PySem.Spec PyProof.Rows L2
section
variable {P : Program} {w : World} {A : Around} {E : Value → Shared → Prop} {s : Shared}
def NoCls (P : Program) (w : World) (n : Nat) (s : Shared) (v : Value) : Prop := ∀ (A : Around) (E : Value → Shared → Prop) (Q : Bool → Shared → Prop), Q false s → wpAny (model P w) A (ofAClassStatement n v) Q E s
def ByVal (P : Program) (w : World) (n : Nat) (s : Shared) (v : Value) : Prop := ∀ (A : Around) (E : Value → Shared → Prop) (Q : Bool → Shared → Prop), (∀ f, Q f s) → wpAny (model P w) A (hashByValue n v) Q E s
theorem noCls_tup {n : Nat} {a : Addr} {o : Obj} {vs : Array Value} {m : Nat} (ho : s.heap.get? a = some o) (hc : o.cls = .type "tuple") (hd : o.data = .seq vs m) (hv : ∀ v ∈ vs.toList, NoCls P w n s v) : NoCls P w (n + 1) s (.ref a) := fun A E Q h => by
  unfold ofAClassStatement
  refine wpAny_bind (wpAny_typeOf (T := "tuple") ⟨o, ho, hc⟩ ?_)
  dsimp only
  simp only [show (("tuple" : String) == "tuple") = true by decide, if_true, Bool.not_true, Bool.false_eq_true, if_false]
  try refine wpAny_bind (wpAny_pure ?_)
  try simp only [Bool.not_true, Bool.false_eq_true, if_false]
  show wpAny _ _ (seqItems? (.ref a) >>= _) _ _ s
  refine wpAny_bind (wpAny_seqItems ho hd ?_)
  dsimp only
  refine wpAny_bind ?_
  show wpAny _ _ (forIn vs _ _) _ _ s
  rw [← Array.forIn_toList]
  refine wpAny_forIn_list _ (fun rest r s' => r.1 = none ∧ s' = s ∧ ∀ v ∈ rest, NoCls P w n s v) _ ?_ ?_ _ _ ⟨rfl, rfl, hv⟩
  · rintro v rest r s' ⟨hr, rfl, hall⟩
    refine wpAny_bind (hall v List.mem_cons_self _ _ _ ?_)
    simp only [Bool.false_eq_true, if_false]
    exact wpAny_pure ⟨rfl, rfl, fun u hu => hall u (List.mem_cons_of_mem _ hu)⟩
  · rintro ⟨r1, r2⟩ s' ⟨hr, rfl, _⟩
    simp only at hr
    subst hr
    exact wpAny_pure h
theorem byVal_tup {n : Nat} {a : Addr} {o : Obj} {vs : Array Value} {m : Nat} (ho : s.heap.get? a = some o) (hc : o.cls = .type "tuple") (hd : o.data = .seq vs m) (hv : ∀ v ∈ vs.toList, ByVal P w n s v) : ByVal P w (n + 1) s (.ref a) := fun A E Q h => by
  have hT : s.TypeIs (.ref a) "tuple" := ⟨o, ho, hc⟩
  unfold hashByValue
  refine wpAny_bind (wpAny_specialOf hT F.slot_tuple_hash.lookup ?_)
  show wpAny _ _ (seqItems? (.ref a) >>= _) _ _ s
  refine wpAny_bind (wpAny_seqItems ho hd ?_)
  refine wpAny_bind ?_
  show wpAny _ _ (forIn vs _ _) _ _ s
  rw [← Array.forIn_toList]
  refine wpAny_forIn_list _ (fun rest r s' => s' = s ∧ ∀ v ∈ rest, ByVal P w n s v) _ ?_ ?_ _ _ ⟨rfl, hv⟩
  · rintro v rest r s' ⟨rfl, hall⟩
    refine wpAny_bind (hall v List.mem_cons_self _ _ _ fun f => ?_)
    cases f with
    | true =>
      simp only [Bool.not_true, Bool.false_eq_true, if_false]
      exact wpAny_pure ⟨rfl, fun u hu => hall u (List.mem_cons_of_mem _ hu)⟩
    | false =>
      simp only [Bool.not_false, if_true]
      exact wpAny_pure (wpAny_pure (h _))
  · rintro ⟨r1, r2⟩ s' ⟨rfl, _⟩
    cases r1 with
    | none => exact wpAny_pure (h _)
    | some b => exact wpAny_pure (h _)
mutual
theorem noCls_key : ∀ (k : NestedKey) (v : Value) (n : Nat) (s : Shared), NestedIs s.heap k v → k.depth ≤ n → NoCls P w n s v
  | .none, _, n, s, x, _ => by cases x; exact fun A E Q h => by cases n <;> exact wpAny_pure h
  | .num i, _, n, s, x, _ => by cases x <;> exact fun A E Q h => by cases n <;> exact wpAny_pure h
  | .text y, _, n, s, x, _ => by cases x; exact fun A E Q h => by cases n <;> exact wpAny_pure h
  | .tup ks, _, n, s, x, hn => by
    cases x with
    | tup hg hc hd hk =>
      simp only [NestedKey.depth] at hn
      cases n with
      | zero => omega
      | succ n => exact noCls_tup hg hc hd (noCls_keys ks _ n s hk (by omega))
theorem noCls_keys : ∀ (ks : List NestedKey) (vs : List Value) (n : Nat) (s : Shared), NestedAll s.heap ks vs → NestedKey.depthAll ks ≤ n → ∀ v ∈ vs, NoCls P w n s v
  | [], _, n, s, x, _, v, hv => by cases x; cases hv
  | k :: ks, _, n, s, x, hn, v, hv => by
    cases x with
    | cons x1 x2 =>
      simp only [NestedKey.depthAll] at hn
      rcases List.mem_cons.mp hv with rfl | hv
      · exact noCls_key k _ n s x1 (by omega)
      · exact noCls_keys ks _ n s x2 (by omega) v hv
end
mutual
theorem byVal_key : ∀ (k : NestedKey) (v : Value) (n : Nat) (s : Shared), NestedIs s.heap k v → k.depth ≤ n → ByVal P w n s v
  | .none, _, n, s, x, _ => by cases x; exact fun A E Q h => by cases n <;> exact wpAny_pure (h _)
  | .num i, _, n, s, x, _ => by cases x <;> exact fun A E Q h => by cases n <;> exact wpAny_pure (h _)
  | .text y, _, n, s, x, _ => by cases x; exact fun A E Q h => by cases n <;> exact wpAny_pure (h _)
  | .tup ks, _, n, s, x, hn => by
    cases x with
    | tup hg hc hd hk =>
      simp only [NestedKey.depth] at hn
      cases n with
      | zero => omega
      | succ n => exact byVal_tup hg hc hd (byVal_keys ks _ n s hk (by omega))
theorem byVal_keys : ∀ (ks : List NestedKey) (vs : List Value) (n : Nat) (s : Shared), NestedAll s.heap ks vs → NestedKey.depthAll ks ≤ n → ∀ v ∈ vs, ByVal P w n s v
  | [], _, n, s, x, _, v, hv => by cases x; cases hv
  | k :: ks, _, n, s, x, hn, v, hv => by
    cases x with
    | cons x1 x2 =>
      simp only [NestedKey.depthAll] at hn
      rcases List.mem_cons.mp hv with rfl | hv
      · exact byVal_key k _ n s x1 (by omega)
      · exact byVal_keys ks _ n s x2 (by omega) v hv
end
def NkAt (h : Heap) (k : NestedKey) (b : Addr) : Prop := NestedIs h k (.ref b) ∧ k.depth ≤ 8
def nkO (P : Program) (w : World) : OKind P w NestedKey where
  is := NkAt
  hash := fun k => k.hash w
  draws := fun k => k.draws
  room := fun A => A.units + 8 < cLine
  keep := fun h k => ⟨NestedIs.at k _ _ h.1, h.2⟩
  pyHash := fun hu hk h => pyHash_key _ _ _ _ _ hk.1 (by have := hk.2; omega) h
  eq := fun {A E s x y a b Q} hu hx hy h => (nestedKind P w).eqBool hu hx hy h
  seen := fun {A E s k b ys Q} hk hy h => by
    unfold searchCouldBeSeen
    refine wpAny_bind ?_
    refine wpAny_forIn_list _ (fun rest r s' => r.1 = none ∧ s' = s ∧ ∀ y ∈ rest, ∃ k' c, y = Value.ref c ∧ NkAt s.heap k' c) _ ?_ ?_ _ _ ⟨rfl, rfl, hy⟩
    · rintro v rest r s' ⟨hr, rfl, hall⟩
      obtain ⟨k', c, rfl, hc⟩ := hall v List.mem_cons_self
      have more : ∀ y ∈ rest, ∃ k' c, y = Value.ref c ∧ NkAt s'.heap k' c := fun u hu => hall u (List.mem_cons_of_mem _ hu)
      dsimp only
      by_cases hv : (b == c || (carriedByValue (.ref b) && carriedByValue (.ref c))) = true
      · exact wp_if_pos hv (wpAny_pure ⟨rfl, rfl, more⟩)
      · refine wp_if_neg hv ?_
        refine wpAny_bind (quiet_key k _ 8 _ hk.1 hk.2 _ _ _ ?_)
        simp only [Bool.not_true, Bool.false_eq_true, if_false]
        refine wpAny_bind (quiet_key k' _ 8 _ hc.1 hc.2 _ _ _ ?_)
        simp only [Bool.not_true, Bool.false_eq_true, if_false]
        refine wpAny_bind (noCls_key k _ 8 _ hk.1 hk.2 _ _ _ ?_)
        simp only [Bool.false_eq_true, if_false]
        refine wpAny_bind (noCls_key k' _ 8 _ hc.1 hc.2 _ _ _ ?_)
        simp only [Bool.false_eq_true, if_false]
        exact wpAny_pure ⟨rfl, rfl, more⟩
    · rintro ⟨r1, r2⟩ s' ⟨hr, rfl, _⟩
      simp only at hr
      subst hr
      exact wpAny_pure h
  byv := fun hk h => byVal_key _ _ 8 _ hk.1 hk.2 _ _ _ h
variable {κ : Type} [DecidableEq κ] {O : OKind P w κ}
structure Has (ks : List (Addr × κ)) (i : Nat) (L : List (Addr × κ)) : Prop where
  sub : ∀ p ∈ L, p ∈ ks.take i
  all : ∀ p ∈ ks.take i, p.2 ∈ L.map (·.2)
  len : L.length ≤ i
theorem Has.next {ks L L' : List (Addr × κ)} {i : Nat} {x : Addr × κ} (g : Has ks i L) (h : ks[i]? = some x) (c1 : x.2 ∈ L.map (·.2) → L' = L) (c2 : x.2 ∉ L.map (·.2) → L'.Perm (x :: L)) : Has ks (i + 1) L' := by
  have e : ks.take (i + 1) = ks.take i ++ [x] := take_snocA h
  by_cases c : x.2 ∈ L.map (·.2)
  · rw [c1 c]
    refine ⟨fun p hp => e ▸ List.mem_append_left _ (g.sub p hp), fun p hp => ?_, Nat.le_succ_of_le g.len⟩
    rw [e, List.mem_append, List.mem_singleton] at hp
    rcases hp with hp | rfl
    · exact g.all p hp
    · exact c
  · have pm := c2 c
    refine ⟨fun p hp => ?_, fun p hp => ?_, by rw [pm.length_eq]; exact Nat.succ_le_succ g.len⟩
    · rw [e, List.mem_append, List.mem_singleton]
      rcases List.mem_cons.mp (pm.mem_iff.mp hp) with rfl | hp
      · exact .inr rfl
      · exact .inl (g.sub p hp)
    · rw [(pm.map (·.2)).mem_iff, List.map_cons, List.mem_cons]
      rw [e, List.mem_append, List.mem_singleton] at hp
      rcases hp with hp | rfl
      · exact .inr (g.all p hp)
      · exact .inl rfl
theorem OKind.InSet.move {h h' : Heap} {a : Addr} {L : List (Addr × κ)} {es : Array (Int × Value)} {ep : Nat} {t : SetTable} (R : O.InSet h a L es ep t) (ha : ∀ o, h.get? a = some o → h'.get? a = some o) (ho : ∀ p ∈ L, O.is h' p.2 p.1) : O.InSet h' a L es ep t := by
  obtain ⟨o, h1, h2⟩ := R.ob
  exact ⟨⟨o, ha o h1, h2⟩, R.rows, R.tab, R.nd, ho, R.led, R.room, R.few⟩
theorem inSet_new {h : Heap} {a : Addr} (ho : h.get? a = some (newSet w)) : O.InSet h a [] #[] 0 (.fresh 0 0 (!w.params.followText "set-order")) :=
  ⟨⟨_, ho, ⟨rfl, rfl, rfl⟩, rfl⟩, rfl, ⟨List.Pairwise.nil, rfl, rfl, .inl rfl, fun x hx => (by cases hx), fun i h j hi => (by simp at hi)⟩, List.nodup_nil, fun p hp => (by cases hp), by
    show _ ∨ (!w.params.followText "set-order") = true
    cases w.params.followText "set-order" <;> simp, by show 0 * 5 < 7 * 3; decide, by show 0 < 64; decide⟩
theorem loop_own {A' : Around} {h0 : Heap} {items : Array Value} {ks : List (Addr × κ)} (hit : items.toList = ks.map fun p => Value.ref p.1) (hk : ∀ p ∈ ks, O.is h0 p.2 p.1) (hfew : ks.length < 64) (hu : O.room A'.in1) :
    SetLoop P w A' h0 items fun h' => ∃ L es ep t, O.InSet h' h0.objs.size L es ep t ∧ Has ks ks.length L := by
  intro I s1 St fp wr R hSf W hst hnew hkeep hwr hR
  have hisz : items.size = ks.length := by
    have q := congrArg List.length hit
    rwa [Array.length_toList, List.length_map] at q
  have hn0 : h0.get? h0.objs.size = none := Heap.get?_none_of_le (Nat.le_refl _)
  have hSw : h0.objs.size ∉ wr := fun h => hSf (W.sub _ h)
  have hsub : ∀ b ∈ wr, b ∈ h0.objs.size :: wr := fun b hb => List.mem_cons_of_mem _ hb
  have stays : ∀ {s s' : Shared}, Moved wr (fun a b => b = a) s s' → (∀ b o, h0.get? b = some o → s.heap.get? b = some o) → ∀ b o, h0.get? b = some o → s'.heap.get? b = some o := fun hm hkp b o e =>
    hm.heap b o (fun hb => by rw [hwr b hb] at e; cases e) (hkp b o e)
  have is_at : ∀ {h' : Heap}, (∀ b o, h0.get? b = some o → h'.get? b = some o) → ∀ p ∈ ks, O.is h' p.2 p.1 := fun hkp p hp => O.keep (hk p hp) fun c o _ _ hc _ => hkp c o hc
  have go : ∀ (k i : Nat) (s : Shared), items.size - i = k → i ≤ items.size → St i s → (∀ b o, h0.get? b = some o → s.heap.get? b = some o) → (∃ L es ep t, O.InSet s.heap h0.objs.size L es ep t ∧ Has ks i L) →
      (∀ s', Moved (h0.objs.size :: wr) (fun a b => b = a) s s' → (∃ L es ep t, O.InSet s'.heap h0.objs.size L es ep t ∧ Has ks ks.length L) → R (.ok (.ret .none)) s') →
      codeAny (model P w) A' (.builtin "set.update.loop" ⟨[.ref h0.objs.size, .ref I], []⟩) R s := by
    intro k
    induction k with
    | zero =>
      intro i s hk' hi hst hkp ⟨L, es, ep, t, hS, g⟩ hR
      have hin : i = ks.length := by omega
      subst hin
      refine codeAny_builtin F.entry_set_update_loop ?_
      rw [Around.under_plainId F.plain_set_update_loop _]
      show wpAny _ A'.in1 (pyNext (.ref I) >>= _) _ _ s
      refine wpAny_bind (W.done s _ _ (by rw [hisz]; exact hst) fun s' hm => ?_)
      show wpAny _ A'.in1 (ret Value.none) _ _ s'
      have hkp' := stays hm hkp
      exact wpAny_pure (hR s' (hm.mono hsub) ⟨L, es, ep, t, hS.move (fun o e => hm.heap _ o hSw e) fun p hp => is_at hkp' p (List.mem_of_mem_take (g.sub p hp)), g⟩)
    | succ k ih =>
      intro i s hk' hi hst hkp ⟨L, es, ep, t, hS, g⟩ hR
      have hlt : i < items.size := by omega
      refine codeAny_builtin F.entry_set_update_loop ?_
      rw [Around.under_plainId F.plain_set_update_loop _]
      show wpAny _ A'.in1 (pyNext (.ref I) >>= _) _ _ s
      refine wpAny_bind (W.item i s _ _ hlt hst fun v s' hP hst' hm => ?_)
      obtain ⟨p, hp, rfl⟩ : ∃ p, ks[i]? = some p ∧ v = .ref p.1 := by
        have e := congrArg (fun l => l[i]?) hit
        simp only [Array.getElem?_toList, List.getElem?_map] at e
        rw [hP] at e
        obtain ⟨p, h1, h2⟩ := Option.map_eq_some_iff.mp e.symm
        exact ⟨p, h1, h2.symm⟩
      have hkp' := stays hm hkp
      have hS' : O.InSet s'.heap h0.objs.size L es ep t := hS.move (fun o e => hm.heap _ o hSw e) fun q hq => is_at hkp' q (List.mem_of_mem_take (g.sub q hq))
      have hx := is_at hkp' p (List.mem_of_getElem? hp)
      show wpAny _ A'.in1 (holding [Value.ref p.1] (setAdd h0.objs.size (.ref p.1)) >>= _) _ _ s'
      refine wpAny_bind (wpAny_holding ?_)
      unfold setAdd
      refine wpAny_holding ?_
      refine wpAny_bind (O.pyHash hu hx ?_)
      refine put_in (s := { s' with toks := s'.toks + O.draws p.2 }) hS' hx hu (by have := g.len; omega) fun b h' L' es' ep' t' hsb hS2 c1 c2 => ?_
      have hkp2 : ∀ b o, h0.get? b = some o → h'.get? b = some o := fun b o e => (hsb.2 b (fun z => by rw [z, hn0] at e; cases e)).trans (hkp' b o e)
      refine wpAny_pure ⟨plainId_quiet F.plain_set_update_loop _, ih (i + 1) _ (by omega) hlt (W.frame _ s' _ _ hst' (Nat.le_add_right _ _) fun b hb o e => ?_) hkp2 ⟨L', es', ep', t', hS2, g.next hp c1 c2⟩ fun s'' hm'' hp'' => ?_⟩
      · exact (hsb.2 b (fun h : b = _ => hSf (by rw [← h]; exact hb))).trans e
      · refine hR s'' (Moved.trans W.gtrans ((hm.mono hsub).then_heap (Nat.le_add_right _ _) fun b o hb e => ?_) hm'') hp''
        exact (hsb.2 b (fun h : b = _ => hb (by rw [h]; exact List.mem_cons_self))).trans e
  exact go (items.size - 0) 0 s1 (by omega) (Nat.zero_le _) hst hkeep ⟨[], #[], 0, _, inSet_new hnew, ⟨fun p h => (by cases h), fun p h => (by simp at h), Nat.le_refl _⟩⟩ hR
end
end Dk
namespace Dk
open PySem PySem.Spec PyProof.Rows L2
def uniqL {α : Type} [DecidableEq α] : List α → List α
  | [] => []
  | x :: l => if x ∈ l then uniqL l else x :: uniqL l
theorem uniqL_mem {α : Type} [DecidableEq α] {k : α} : ∀ {l : List α}, k ∈ uniqL l ↔ k ∈ l
  | [] => by simp [uniqL]
  | x :: l => by
    unfold uniqL
    split
    · rename_i h
      rw [uniqL_mem, List.mem_cons]
      exact ⟨.inr, fun z => z.elim (fun e => by rw [e]; exact h) id⟩
    · rw [List.mem_cons, List.mem_cons, uniqL_mem]
theorem uniqL_nodup {α : Type} [DecidableEq α] : ∀ l : List α, (uniqL l).Nodup
  | [] => List.nodup_nil
  | x :: l => by
    unfold uniqL
    split
    · exact uniqL_nodup l
    · rename_i h
      exact List.nodup_cons.mpr ⟨fun z => h (uniqL_mem.mp z), uniqL_nodup l⟩
theorem nd_len {α : Type} : ∀ {xs ys : List α}, xs.Nodup → (∀ a ∈ xs, a ∈ ys) → xs.length ≤ ys.length
  | [], _, _, _ => Nat.zero_le _
  | a :: xs, ys, h, hs => by
    obtain ⟨h1, h2⟩ := List.nodup_cons.mp h
    obtain ⟨s, t, e⟩ := List.append_of_mem (hs a List.mem_cons_self)
    have ih := nd_len (xs := xs) (ys := s ++ t) h2 fun b hb => by
      have hm := hs b (List.mem_cons_of_mem _ hb)
      rw [e, List.mem_append, List.mem_cons] at hm
      rw [List.mem_append]
      rcases hm with z | z | z
      · exact .inl z
      · exact absurd (z ▸ hb) h1
      · exact .inr z
    rw [e]
    simp only [List.length_append, List.length_cons] at ih ⊢
    omega
section
variable {P : Program} {w : World} {A : Around} {E : Value → Shared → Prop} {s : Shared}
end
def tups? : List D → Option (List (List Int))
  | [] => some []
  | .tuple ds :: r => (ints? ds).bind fun ns => (tups? r).map (ns :: ·)
  | _ :: _ => none
theorem tups?_map : ∀ nss : List (List Int), tups? (nss.map fun ns => .tuple (ns.map .int)) = some nss
  | [] => rfl
  | ns :: r => by
    show (ints? (ns.map .int)).bind _ = _
    rw [ints?_map, Option.bind_some, tups?_map r]
    rfl
def setT (d : D) : Option (List (List Int)) := match d with
  | .list ds => tups? ds
  | .tuple ds => tups? ds
  | _ => none
def lsetD (d : D) : Option Rs := (setT d).bind fun nss => if nss.length < 64 then some (.val (.int (uniqL nss).length)) else none
section
variable {X : Cx} {S : Type} [StK S] {a : Expr} {ta : OW S} {k : Nat} {p p2 q pos : Pos}
end
@[simp↓] theorem g_lset {nss : List (List Int)} {k : Rs → Prop} : gets (lsetD (.tuple (nss.map fun ns => .tuple (ns.map .int)))) k = (nss.length < 64 ∧ k (.val (.int (uniqL nss).length))) := by
  show gets ((tups? _).bind _) k = _
  rw [tups?_map]
  exact g_ite
end Dk
namespace Dk
open PySem PySem.Spec PyProof.Rows L2 PySem.Calls
section
variable {P : Program} {w : World} {A : Around} {E : Value → Shared → Prop} {s : Shared}
variable {β : Type} {bs : List β} {R : Value → β → Prop} {enc : β → PyData}
end
open Classical in
noncomputable def sortedZ : List D → Option Rs
  | [.list ds] => if sortOk ds then some (.own (sortD ds)) else none
  | [.tuple ds] => if sortOk ds then some (.own (sortD ds)) else none
  | _ => none
open Classical in
@[simp↓] theorem g_sortZL {xs : List D} {k : Rs → Prop} : gets (sortedZ [.list xs]) k = (sortOk xs ∧ k (.own (sortD xs))) := by unfold sortedZ; exact g_ite
open Classical in
@[simp↓] theorem g_sortZT {xs : List D} {k : Rs → Prop} : gets (sortedZ [.tuple xs]) k = (sortOk xs ∧ k (.own (sortD xs))) := by unfold sortedZ; exact g_ite
end Dk
namespace Dk
open PySem PySem.Spec PyProof.Rows L2 PySem.Calls
mutual
def pk : D → Bool
  | .none => true
  | .int _ => true
  | .str _ => true
  | .tuple ds => pks ds
  | .bool _ => false
  | .list _ => false
  | .dict _ => false
def pks : List D → Bool
  | [] => true
  | d :: ds => pk d && pks ds
end
mutual
def toK : D → NestedKey
  | .int i => .num i
  | .str x => .text x
  | .tuple ds => .tup (toKs ds)
  | .none => .none
  | .bool _ => .none
  | .list _ => .none
  | .dict _ => .none
def toKs : List D → List NestedKey
  | [] => []
  | d :: ds => toK d :: toKs ds
end
mutual
theorem nkD_pk : ∀ {d : D}, pk d = true → nkD d = some (toK d)
  | .none, _ => rfl
  | .int i, _ => rfl
  | .str x, _ => rfl
  | .tuple ds, h => by
    rw [pk] at h
    rw [nkD, nksD_pk h, toK]
    rfl
  | .bool _, h => by cases h
  | .list _, h => by cases h
  | .dict _, h => by cases h
theorem nksD_pk : ∀ {ds : List D}, pks ds = true → nksD ds = some (toKs ds)
  | [], _ => rfl
  | d :: ds, h => by
    rw [pks, Bool.and_eq_true] at h
    rw [nksD, nkD_pk h.1, Option.bind_some, nksD_pk h.2, toKs]
    rfl
end
mutual
theorem data_toK : ∀ {d : D}, pk d = true → (toK d).data = d
  | .none, _ => rfl
  | .int i, _ => rfl
  | .str x, _ => rfl
  | .tuple ds, h => by
    rw [pk] at h
    rw [toK, NestedKey.data, data_toKs h]
  | .bool _, h => by cases h
  | .list _, h => by cases h
  | .dict _, h => by cases h
theorem data_toKs : ∀ {ds : List D}, pks ds = true → NestedKey.datas (toKs ds) = ds
  | [], _ => rfl
  | d :: ds, h => by
    rw [pks, Bool.and_eq_true] at h
    rw [toKs, NestedKey.datas, data_toK h.1, data_toKs h.2]
end
mutual
theorem depth_toK : ∀ (d : D), (toK d).depth ≤ d.depth
  | .none => Nat.zero_le _
  | .int i => Nat.zero_le _
  | .str x => Nat.zero_le _
  | .tuple ds => by
    rw [toK, NestedKey.depth, PyData.depth]
    have := depth_toKs ds
    omega
  | .bool _ => Nat.zero_le _
  | .list _ => Nat.zero_le _
  | .dict _ => Nat.zero_le _
theorem depth_toKs : ∀ (ds : List D), NestedKey.depthAll (toKs ds) ≤ PyData.depthAll ds
  | [] => Nat.zero_le _
  | d :: ds => by
    rw [toKs, NestedKey.depthAll, PyData.depthAll]
    have := depth_toK d
    have := depth_toKs ds
    omega
end
mutual
theorem eqv_pk : ∀ {a b : D}, pk a = true → pk b = true → PyData.eqv a b = true → a = b
  | .none, b, _, hb, h => by cases b <;> first | rfl | (simp [pk] at hb; done) | (simp [PyData.eqv] at h)
  | .int i, b, _, hb, h => by cases b <;> first | (simp [pk] at hb; done) | (simp [PyData.eqv] at h; done) | (simp [PyData.eqv] at h; rw [h])
  | .str x, b, _, hb, h => by cases b <;> first | (simp [pk] at hb; done) | (simp [PyData.eqv] at h; done) | (simp [PyData.eqv] at h; rw [h])
  | .tuple xs, b, ha, hb, h => by
    cases b with
    | tuple ys =>
      rw [pk] at ha hb
      rw [PyData.eqv] at h
      rw [eqvA_pk ha hb h]
    | _ => first | (simp [PyData.eqv] at h) | (simp [pk] at hb)
  | .bool _, _, ha, _, _ => by cases ha
  | .list _, _, ha, _, _ => by cases ha
  | .dict _, _, ha, _, _ => by cases ha
theorem eqvA_pk : ∀ {xs ys : List D}, pks xs = true → pks ys = true → PyData.eqvAll xs ys = true → xs = ys
  | [], [], _, _, _ => rfl
  | [], _ :: _, _, _, h => by simp [PyData.eqvAll] at h
  | _ :: _, [], _, _, h => by simp [PyData.eqvAll] at h
  | x :: xs, y :: ys, ha, hb, h => by
    rw [pks, Bool.and_eq_true] at ha hb
    rw [PySem.W.eqv_all_cons, Bool.and_eq_true] at h
    rw [eqv_pk ha.1 hb.1 h.1, eqvA_pk ha.2 hb.2 h.2]
end
theorem dlt_tri {a b : D} (ha : pk a = true) (hb : pk b = true) (al : PySem.W.alike a b = true) (h1 : PySem.W.dataLt a b = false) (h2 : PySem.W.dataLt b a = false) : a = b := by
  have e : PySem.W.keyToks a = PySem.W.keyToks b := PyProof.Rows.lex_total _ _ h1 h2
  cases q : PyData.eqv a b with
  | true => exact eqv_pk ha hb q
  | false =>
    have z := (PySem.W.toks_eqv a b al).2 q [] [Sum.inl 0]
    rw [e, PySem.W.lex_pre, PyProof.Rows.lex_irrefl] at z
    exact absurd z (by decide)
theorem sortD_perm {xs ys : List D} (p : xs.Perm ys) (hp : ∀ d ∈ xs, pk d = true) (al : PySem.W.AllAlike xs) : sortD xs = sortD ys := by
  have px : (sortD xs).Perm xs := List.mergeSort_perm _ _
  have py : (sortD ys).Perm ys := List.mergeSort_perm _ _
  have tr : ∀ a b c : D, leD0 a b = true → leD0 b c = true → leD0 a c = true := fun a b c h1 h2 => by
    unfold leD0 at *
    rw [Bool.not_eq_true'] at *
    cases q : PySem.W.dataLt c a with
    | false => rfl
    | true =>
      rcases PyProof.Rows.lex_negTrans (O := PyProof.Rows.itemOrd) (PySem.W.keyToks c) (PySem.W.keyToks b) (PySem.W.keyToks a) q with z | z
      · rw [show PySem.W.dataLt c b = true from z] at h2; cases h2
      · rw [show PySem.W.dataLt b a = true from z] at h1; cases h1
  have tot : ∀ a b : D, (leD0 a b || leD0 b a) = true := fun a b => by
    unfold leD0
    cases q : PySem.W.dataLt b a with
    | false => rfl
    | true => rw [dlt_asym q]; rfl
  have sx : (sortD xs).Pairwise fun a b => leD0 a b = true := List.pairwise_mergeSort tr tot xs
  have sy : (sortD ys).Pairwise fun a b => leD0 a b = true := List.pairwise_mergeSort tr tot ys
  refine List.Perm.eq_of_pairwise (le := fun a b => leD0 a b = true) (fun a b ha hb h1 h2 => ?_) sx sy (px.trans (p.trans py.symm))
  have ma := px.mem_iff.mp ha
  have mb := p.mem_iff.mpr (py.mem_iff.mp hb)
  unfold leD0 at h1 h2
  rw [Bool.not_eq_true'] at h1 h2
  exact dlt_tri (hp a ma) (hp b mb) (al a ma b mb) h2 h1
section
variable {P : Program} {w : World} {A : Around} {E : Value → Shared → Prop} {s : Shared}
theorem sorted_any {x : Value} {G : List Value → Prop} {β : Type} {enc : β → PyData} {R : Value → β → Prop} {Q : Value → Shared → Prop}
    (hcol : ∀ Q' : List Value → Shared → Prop, (∀ (s1 : Shared) (vs : List Value), (∀ b o, s.heap.get? b = some o → s1.heap.get? b = some o) → s.heap.objs.size ≤ s1.heap.objs.size → s1.gens = s.gens → s1.os = s.os → G vs → Q' vs s1) → wpAny (model P w) A.in1 (collect x) Q' E s)
    (each : ∀ vs, G vs → ∃ bs : List β, PySem.W.EachIs R vs bs ∧ PySem.W.EachIs (fun v b => ∃ as, Reads s.heap v (enc b) as) vs bs ∧ PySem.W.AllAlike (bs.map enc) ∧ PySem.W.Sortable (bs.map enc) ∧ bs.length ≤ sizeLine ∧ (∀ b ∈ bs, A.units + 2 + (enc b).depth < cLine) ∧
      ∀ (s' : Shared) (p : Addr) (out : List Value) (c : Nat), (∀ b u, s.heap.get? b = some u → s'.heap.get? b = some u) → s'.gens = s.gens → s'.os = s.os → s.heap.objs.size ≤ p → s'.heap.get? p = some (seqObj "list" (List.toArray out) c) → out.length = bs.length → PySem.W.EachIs R out (bs.mergeSort (PySem.W.dataLe false enc)) → Q (.ref p) s') :
    wpAny (model P w) A (call (.builtin "sorted") [x]) Q E s := by
  refine Calls.call_function_entry kind_sorted plain_sorted entry_sorted (args_sorted1 _) ?_
  unfold Builtin.«sorted»
  refine wpAny_bind (m := checkCount "sorted" 1 1 _) (wpAny_pure ?_)
  refine wpAny_bind (hcol _ fun s1 vs k1 z1 g1 o1 hG => ?_)
  obtain ⟨bs, e, er, hal, hk, hL, hu, h⟩ := each vs hG
  have hvl := e.length
  obtain ⟨h1, gens1, dr1, tk1, os1⟩ := s1
  simp only at k1 z1 g1 o1
  have hoL : (h1.push (seqObj "list" vs.toArray 0)).get? h1.objs.size = some (seqObj "list" vs.toArray 0) := Heap.get?_push_size _ rfl
  refine wpAny_bind (wpAny_newList ?_ (by first | omega | (simp; omega)))
  have old : ∀ b u, s.heap.get? b = some u → (PySem.W.sortingHeap (h1.push (seqObj "list" vs.toArray 0)) h1.objs.size vs).get? b = some u := fun b u q => by
    have q1 := k1 b u q
    exact PySem.W.sortingHeap_old (Nat.ne_of_lt (Heap.lt_size q1)) (Heap.get?_push_of_some _ q1)
  have er' : PySem.W.EachIs (fun v b => ∃ as, Reads (PySem.W.sortingHeap (h1.push (seqObj "list" vs.toArray 0)) h1.objs.size vs) v (enc b) as) vs bs := er.mono fun _ _ ⟨as, r⟩ => ⟨as, PyProof.Rows.Reads.keeps old r⟩
  refine wpAny_bind (wpAny_holding (wpAny_call_entry slot_list_sort ⟨_, hoL, rfl⟩ entry_list_sort (PySem.W.list_sort_vals (κ := PySem.W.dataKind (PySem.W.sortingHeap (h1.push (seqObj "list" vs.toArray 0)) h1.objs.size vs) (bs.map enc)) (s := ⟨h1.push (seqObj "list" vs.toArray 0), gens1, dr1, tk1, os1⟩) hoL
    (PySem.W.SortsAt.data (s := ⟨PySem.W.sortingHeap (h1.push (seqObj "list" vs.toArray 0)) h1.objs.size vs, gens1, dr1, tk1, os1⟩) (PySem.W.each_map (R := fun v d => ∃ as, Reads (PySem.W.sortingHeap (h1.push (seqObj "list" vs.toArray 0)) h1.objs.size vs) v d as) enc er') hal hk (PySem.W.bound_map hu)) (by omega) ⟨_, rfl, ?_⟩) (args_list_sort _)))
  obtain ⟨c, hcs⟩ := sortedHeap_at (vs := vs) (out := (PySem.W.sortVals (PySem.W.dataKind (PySem.W.sortingHeap (h1.push (seqObj "list" vs.toArray 0)) h1.objs.size vs) (bs.map enc)) false vs vs).toArray) hoL
  refine wpAny_pure ⟨_, rfl, h _ h1.objs.size _ c (fun b u q => ?_) g1 o1 z1 hcs (by rw [PySem.W.sortVals_length false rfl]; exact hvl) (PySem.W.sortVals_data false e er' hal)⟩
  have q1 := k1 b u q
  rw [sortedHeap_old (Nat.ne_of_lt (Heap.lt_size q1)) (by rw [Heap.size_push]; exact Nat.lt_succ_of_lt (Heap.lt_size q1))]
  exact Heap.get?_push_of_some _ q1
end
def pkT : D → Bool
  | .tuple ds => pks ds && decide (PyData.depthAll ds ≤ 7)
  | _ => false
theorem pkT_pk {d : D} (h : pkT d = true) : pk d = true ∧ d.depth ≤ 8 ∧ ∃ ds, d = .tuple ds := by
  cases d with
  | tuple ds =>
    rw [pkT, Bool.and_eq_true, decide_eq_true_eq] at h
    exact ⟨by rw [pk]; exact h.1, by rw [depth_tuple]; omega, ds, rfl⟩
  | _ => cases h
def seqD : D → Option (List D)
  | .list ds => some ds
  | .tuple ds => some ds
  | _ => none
def nOk (ds : List D) : Prop := ds.all pkT = true ∧ ds.length < 64
open Classical in
noncomputable def uniqD (ds : List D) : List D := uniqL ds
open Classical in
noncomputable def nsetD (d : D) : Option Rs := (seqD d).bind fun ds => if nOk ds ∧ sortOk ds then some (.own (sortD (uniqD ds))) else none
open Classical in
noncomputable def nlenD (d : D) : Option Rs := (seqD d).bind fun ds => if nOk ds then some (.val (.int (uniqD ds).length)) else none
theorem uniqD_mem {d : D} {ds : List D} : d ∈ uniqD ds ↔ d ∈ ds := by
  classical
  unfold uniqD
  exact uniqL_mem
theorem uniqD_nodup (ds : List D) : (uniqD ds).Nodup := by
  classical
  unfold uniqD
  exact uniqL_nodup ds
theorem uniqD_le (ds : List D) : (uniqD ds).length ≤ ds.length := nd_len (uniqD_nodup ds) fun a ha => uniqD_mem.mp ha
open Classical in
@[simp↓] theorem g_nsetL {ds : List D} {k : Rs → Prop} : gets (nsetD (.list ds)) k = ((nOk ds ∧ sortOk ds) ∧ k (.own (sortD (uniqD ds)))) := by unfold nsetD; exact g_ite
open Classical in
@[simp↓] theorem g_nsetT {ds : List D} {k : Rs → Prop} : gets (nsetD (.tuple ds)) k = ((nOk ds ∧ sortOk ds) ∧ k (.own (sortD (uniqD ds)))) := by unfold nsetD; exact g_ite
open Classical in
@[simp↓] theorem g_nlenL {ds : List D} {k : Rs → Prop} : gets (nlenD (.list ds)) k = (nOk ds ∧ k (.val (.int (uniqD ds).length))) := by unfold nlenD; exact g_ite
open Classical in
@[simp↓] theorem g_nlenT {ds : List D} {k : Rs → Prop} : gets (nlenD (.tuple ds)) k = (nOk ds ∧ k (.val (.int (uniqD ds).length))) := by unfold nlenD; exact g_ite
theorem nset_up {ds : List D} (hp : ∀ d ∈ ds, pk d = true) (al : PySem.W.AllAlike ds) : (sortD (uniqD ds)).Pairwise fun a b => PySem.W.dataLt a b = true := by
  have tr : ∀ a b c : D, leD0 a b = true → leD0 b c = true → leD0 a c = true := fun a b c h1 h2 => by
    unfold leD0 at *
    rw [Bool.not_eq_true'] at *
    cases q : PySem.W.dataLt c a with
    | false => rfl
    | true =>
      rcases PyProof.Rows.lex_negTrans (O := PyProof.Rows.itemOrd) (PySem.W.keyToks c) (PySem.W.keyToks b) (PySem.W.keyToks a) q with z | z
      · rw [show PySem.W.dataLt c b = true from z] at h2; cases h2
      · rw [show PySem.W.dataLt b a = true from z] at h1; cases h1
  have tot : ∀ a b : D, (leD0 a b || leD0 b a) = true := fun a b => by
    unfold leD0
    cases q : PySem.W.dataLt b a with
    | false => rfl
    | true => rw [dlt_asym q]; rfl
  have pm : (sortD (uniqD ds)).Perm (uniqD ds) := List.mergeSort_perm _ _
  have nd : (sortD (uniqD ds)).Nodup := pm.nodup_iff.mpr (uniqD_nodup ds)
  have srt : (sortD (uniqD ds)).Pairwise fun a b => leD0 a b = true := List.pairwise_mergeSort tr tot _
  refine (List.Pairwise.and_mem.mp (List.Pairwise.and srt nd)).imp fun {a b} ⟨ha, hb, h1, h2⟩ => ?_
  have ma := uniqD_mem.mp (pm.mem_iff.mp ha)
  have mb := uniqD_mem.mp (pm.mem_iff.mp hb)
  cases q : PySem.W.dataLt a b with
  | true => rfl
  | false =>
    unfold leD0 at h1
    rw [Bool.not_eq_true'] at h1
    exact absurd (dlt_tri (hp a ma) (hp b mb) (al a ma b mb) q h1) h2
theorem nset_mem {d : D} {ds : List D} : d ∈ sortD (uniqD ds) ↔ d ∈ ds := ((List.mergeSort_perm _ _).mem_iff : d ∈ sortD (uniqD ds) ↔ _).trans uniqD_mem
theorem keys_read {K : Fg} {F : Hp} : ∀ {ds : List D} {vs : List V}, ds.all pkT = true → DRs K F ds vs → ∃ ks : List (Addr × NestedKey), vs = ks.map (fun p => V.ref p.1) ∧ ks.map (·.2) = ds.map toK ∧ (∀ p ∈ ks, p.2.data ∈ ds ∧ toK p.2.data = p.2 ∧ DR K F p.2.data (.ref p.1))
  | [], vs, _, h => ⟨[], by rw [DRs.nil_.mp h]; rfl, rfl, fun p hp => by cases hp⟩
  | d :: r, vs, hd, h => by
    rw [List.all_cons, Bool.and_eq_true] at hd
    obtain ⟨v, vr, rfl, h1, h2⟩ := DRs.cons_.mp h
    obtain ⟨p1, _, ds, rfl⟩ := pkT_pk hd.1
    obtain ⟨ks, rfl, e, hk⟩ := keys_read hd.2 h2
    obtain ⟨a, us, rfl, _, _⟩ := DR.tuple_s h1
    have ed := data_toK p1
    refine ⟨(a, toK (.tuple ds)) :: ks, rfl, by rw [List.map_cons, List.map_cons, e], fun p hp => ?_⟩
    rcases List.mem_cons.mp hp with rfl | hp
    · exact ⟨by rw [ed]; exact List.mem_cons_self, by rw [ed], by rw [ed]; exact h1⟩
    · obtain ⟨q1, q2, q3⟩ := hk p hp
      exact ⟨List.mem_cons_of_mem _ q1, q2, q3⟩
section
variable {X : Cx} {S : Type} [StK S] {a : Expr} {ta : OW S} {k : Nat} {p p2 q pos : Pos}
theorem set_read {pins : List (Addr × Obj)} {σ : L2.St} {H F : Hp} {s : Shared} {d : D} {ds : List D} {x : V} (I : Inv X pins σ H s) (hF : Le F H) (hd : RdD X.K H F d x) (e : seqD d = some ds) (hn : ds.all pkT = true) :
    ∃ (l : Addr) (c : Bool) (ks : List (Addr × NestedKey)), x = .ref l ∧ SqC X.K H c l (ks.map fun p => V.ref p.1) ∧ ks.map (·.2) = ds.map toK ∧ (∀ p ∈ ks, p.2.data ∈ ds ∧ toK p.2.data = p.2 ∧ DR X.K F p.2.data (.ref p.1)) ∧ ∀ p ∈ ks, NkAt s.heap p.2 p.1 := by
  have fin : ∀ {vs : List V}, DRs X.K F ds vs → ∃ ks : List (Addr × NestedKey), vs = ks.map (fun p => V.ref p.1) ∧ ks.map (·.2) = ds.map toK ∧ (∀ p ∈ ks, p.2.data ∈ ds ∧ toK p.2.data = p.2 ∧ DR X.K F p.2.data (.ref p.1)) ∧ ∀ p ∈ ks, NkAt s.heap p.2 p.1 := fun h => by
    obtain ⟨ks, h1, h2, h3⟩ := keys_read hn h
    refine ⟨ks, h1, h2, h3, fun p hp => ?_⟩
    obtain ⟨m, e2, r⟩ := h3 p hp
    have hp2 := pkT_pk (List.all_eq_true.mp hn _ m)
    have hk := nest_of I hF p.2.data (.ref p.1) (.ref p.1) (toK p.2.data) r rfl (nkD_pk hp2.1)
    rw [e2] at hk
    refine ⟨hk, ?_⟩
    have := depth_toK p.2.data
    rw [e2] at this
    omega
  cases d with
  | list es =>
    cases e
    obtain ⟨l, vs, rfl, hl, dr⟩ := hd.list hF
    obtain ⟨ks, rfl, h2, h3, h4⟩ := fin dr
    exact ⟨l, false, ks, rfl, .inl (.inl hl), h2, h3, h4⟩
  | tuple es =>
    cases e
    obtain ⟨l, vs, rfl, hl, dr⟩ := hd.tuple hF
    obtain ⟨ks, rfl, h2, h3, h4⟩ := fin dr
    exact ⟨l, true, ks, rfl, hl, h2, h3, h4⟩
  | _ => cases e
theorem refs_v : ∀ {ks : List (Addr × NestedKey)} {us : List Value}, Vals (ks.map fun p => V.ref p.1) us → us = ks.map fun p => Value.ref p.1
  | [], _, h => by cases h; rfl
  | p :: ks, _, h => by
    cases h with
    | cons h1 h2 =>
      cases h1
      rw [refs_v h2]
      rfl
theorem has_perm {ks L : List (Addr × NestedKey)} {ds : List D} (hn : ds.all pkT = true) (g : Has ks ks.length L) (nd : (L.map (·.2)).Nodup) (ek : ks.map (·.2) = ds.map toK) (hd : ∀ p ∈ ks, p.2.data ∈ ds ∧ toK p.2.data = p.2) : (L.map fun p => p.2.data).Perm (uniqD ds) := by
  have sub : ∀ p ∈ L, p ∈ ks := fun p hp => List.mem_of_mem_take (g.sub p hp)
  refine (List.perm_ext_iff_of_nodup ?_ (uniqD_nodup ds)).mpr fun d => ?_
  · have e : L.map (·.2) = (L.map fun p => p.2.data).map toK := by
      rw [List.map_map]
      exact List.map_congr_left fun p hp => ((hd p (sub p hp)).2).symm
    rw [e] at nd
    exact List.Pairwise.of_map toK (fun _ _ hne e => hne (congrArg toK e)) nd
  · rw [uniqD_mem, List.mem_map]
    constructor
    · rintro ⟨p, hp, rfl⟩
      exact (hd p (sub p hp)).1
    · intro hm
      have : toK d ∈ ks.map (·.2) := by rw [ek]; exact List.mem_map.mpr ⟨d, hm, rfl⟩
      obtain ⟨p, hp, e⟩ := List.mem_map.mp this
      obtain ⟨p', hp', e'⟩ := List.mem_map.mp (g.all p (by rw [List.take_length]; exact hp))
      exact ⟨p', hp', by rw [e', e]; exact data_toK (pkT_pk (List.all_eq_true.mp hn _ hm)).1⟩
theorem perm_unmap {α β : Type} {f : α → β} : ∀ {vs : List β} {L : List α}, vs.Perm (L.map f) → ∃ M2 : List α, vs = M2.map f ∧ M2.Perm L
  | [], L, h => by
    have := h.length_eq
    rw [List.length_map, List.length_nil] at this
    exact ⟨[], rfl, by rw [List.length_eq_zero_iff.mp this.symm]⟩
  | v :: r, L, h => by
    obtain ⟨x, hx, rfl⟩ := List.mem_map.mp (h.mem_iff.mp List.mem_cons_self)
    obtain ⟨s, t, rfl⟩ := List.append_of_mem hx
    rw [List.map_append, List.map_cons] at h
    have h2 : r.Perm ((s ++ t).map f) := by
      rw [List.map_append]
      exact (List.perm_cons _).mp (h.trans List.perm_middle)
    obtain ⟨M, rfl, hM⟩ := perm_unmap h2
    exact ⟨x :: M, rfl, ((List.perm_cons _).mpr hM).trans List.perm_middle.symm⟩
theorem each_refs {K : Fg} {F : Hp} : ∀ {L : List (Addr × NestedKey)}, (∀ p ∈ L, DR K F p.2.data (.ref p.1)) → PySem.W.EachIs (fun v (b : D × V) => DR K F b.1 b.2 ∧ RelV b.2 v) (L.map fun p => Value.ref p.1) (L.map fun p => (p.2.data, V.ref p.1))
  | [], _ => .nil
  | p :: L, h => .cons ⟨h p List.mem_cons_self, rfl⟩ (each_refs fun q hq => h q (List.mem_cons_of_mem _ hq))
theorem ce_sortedNest (O : XO X k) (hm : X.mg "sorted" = none) (hm2 : X.mg "set" = none) (ha : CO X a ta) (hg : Gl X "sorted" := by rfl) (hg2 : Gl X "set" := by rfl)
    (na : starEach [a] X.env = (false, eval a X.env) :: starEach [] X.env := by rfl) : CE (S := S) X (.Call (.Name "sorted" p) [.Call (.Name "set" p2) [a] [] q] [] pos) (dUn nsetD ta) := by
  classical
  refine ⟨fun pins s σ H Q I h => ?_⟩
  have h' := un_step h
  refine Call_ (ld_blt I hg hm b_sorted ?_)
  refine PyProof.Rows.callWith_builtin1 (PyProof.Rows.args_cons ?_ rfl) rfl rfl
  refine Call_ (ld_blt I hg2 hm2 PyProof.Rows.boot_set ?_)
  refine PyProof.Rows.callWith_type1 (PyProof.Rows.args_cons (thn (ha.run pins s σ H _ I h') fun v s1 ⟨x, H1, I1, r1, q1⟩ => PyProof.Rows.args_nil ?_) na) na rfl
  obtain ⟨F, d, r, ⟨hz, hF⟩, hd, hg, qq⟩ := q1
  unfold nsetD at hg
  obtain ⟨ds, e1, e2⟩ := Option.bind_eq_some_iff.mp hg
  obtain ⟨⟨⟨hn, hlt⟩, c1, c2, c3⟩, rfl⟩ := some_ite e2
  obtain ⟨l, c, ks, rfl, hq, ek, hk, hat⟩ := set_read I1 hF hd e1 hn
  cases r1
  obtain ⟨its, rv, st, hl⟩ := seqC I1 hq
  have hit : its.toArray.toList = ks.map fun p => Value.ref p.1 := by simpa using refs_v rv
  have hkl : ks.length = ds.length := by rw [← List.length_map (f := (·.2)), ek, List.length_map]
  have hun := O.room.un
  refine call_set_seq (I1.ok.hd O.calm) st (fun A' _ hA => loop_own (O := nkO X.prog X.w) hit hat (by omega) (by show A'.in1.units + 8 < cLine; simp; omega)) fun h' tk ⟨L, es, ep, t, R, g⟩ hkp => ?_
  refine PyProof.Rows.args_nil ?_
  have I2 : Inv X pins σ H1 { s1 with heap := h', toks := tk } := I1.kept hkp
  obtain ⟨o, ho, hex, hd2⟩ := R.ob
  have sub : ∀ p ∈ L, p ∈ ks := fun p hp => List.mem_of_mem_take (g.sub p hp)
  have pm := has_perm hn g R.nd ek fun p hp => ⟨(hk p hp).1, (hk p hp).2.1⟩
  have hsz := OKind.InSet.size (s := { s1 with heap := h', toks := tk }) R
  have hLl : L.length ≤ ds.length := by
    have := pm.length_eq
    rw [List.length_map] at this
    have := uniqD_le ds
    omega
  have hz2 : sizeLine = 16777216 := sizeLine_eq
  refine sorted_any (s := { s1 with heap := h', toks := tk }) (enc := fun b : D × V => b.1) (R := fun v b => DR X.K F b.1 b.2 ∧ RelV b.2 v) (G := fun vs => vs.Perm (es.toList.map (·.2)))
    (fun Q' hQ' => collect_set (I2.ok.hd O.calm) ⟨o, ho, hex.1, hd2⟩ (OKind.InSet.fits (s := { s1 with heap := h', toks := tk }) R) (by rw [hsz]; unfold scanBound; omega) R.tab.ris R.led fun s' out k1 z1 g1 o1 pm1 => hQ' s' out k1 z1 g1 o1 pm1) fun vs hG => ?_
  rw [R.rows, List.map_map] at hG
  have e0 : ((fun e : Int × Value => e.2) ∘ (nkO X.prog X.w).line) = fun p : Addr × NestedKey => Value.ref p.1 := rfl
  rw [e0] at hG
  obtain ⟨L2, e2, pL⟩ : ∃ M2 : List (Addr × NestedKey), vs = M2.map (fun p => Value.ref p.1) ∧ M2.Perm L := perm_unmap hG
  subst e2
  have hk2 : ∀ p ∈ L2, p ∈ ks := fun p hp => sub p (pL.mem_iff.mp hp)
  have er := each_refs (K := X.K) (F := F) (L := L2) fun p hp => (hk p (hk2 p hp)).2.2
  have ef : (L2.map fun p => (p.2.data, V.ref p.1)).map (fun b : D × V => b.1) = L2.map fun p => p.2.data := by rw [List.map_map]; rfl
  have pd : (L2.map fun p => p.2.data).Perm (uniqD ds) := (pL.map _).trans pm
  have memd : ∀ d ∈ L2.map (fun p => p.2.data), d ∈ ds := fun d hd => uniqD_mem.mp (pd.mem_iff.mp hd)
  have al2 : PySem.W.AllAlike (L2.map fun p => p.2.data) := fun d hd e he => c1 d (memd d hd) e (memd e he)
  have rd : PySem.W.EachIs (fun v (b : D × V) => ∃ as, Reads h' v b.1 as) (L2.map fun p => Value.ref p.1) (L2.map fun p => (p.2.data, V.ref p.1)) := er.mono fun v b h12 => by
    obtain ⟨as, r, _⟩ := DR.reads I2 hF b.1 b.2 v h12.1 h12.2
    exact ⟨as, r⟩
  have sb : PySem.W.Sortable (L2.map fun p => p.2.data) := by
    rcases c2 with c2 | c2
    · exact .inl fun d hd => c2 d (memd d hd)
    · exact .inr fun d hd => c2 d (memd d hd)
  refine ⟨L2.map fun p => (p.2.data, V.ref p.1), er, rd, by rw [ef]; exact al2, by rw [ef]; exact sb, by rw [List.length_map, pL.length_eq]; omega, fun b hb => ?_, fun s' pp out c k1 g1 o1 hz1 hob hlen eo => ?_⟩
  · obtain ⟨q, hq2, rfl⟩ := List.mem_map.mp hb
    have := c3 q.2.data (memd _ (List.mem_map.mpr ⟨q, hq2, rfl⟩))
    show X.A.units + 2 + (q.2.data).depth < cLine
    omega
  · obtain ⟨k2, k3⟩ := each_back eo
    have em : ((L2.map fun p => (p.2.data, V.ref p.1)).mergeSort (PySem.W.dataLe false fun b : D × V => b.1)).map Prod.fst = sortD (uniqD ds) := by
      have e9 := List.map_mergeSort (r := PySem.W.dataLe false fun b : D × V => b.1) (s := leD0) (f := Prod.fst) (l := L2.map fun p => (p.2.data, V.ref p.1)) (fun a _ b _ => rfl)
      rw [e9, show (L2.map fun p => (p.2.data, V.ref p.1)).map Prod.fst = L2.map fun p => p.2.data from ef]
      exact sortD_perm pd (fun d hd => (pkT_pk (List.all_eq_true.mp hn d (memd d hd))).1) al2
    rw [em] at k2
    obtain ⟨h2, g2, d2, t2, os2⟩ := s'
    have eg : g2 = s1.gens := g1
    have eo2 : os2 = s1.os := o1
    subst eg; subst eo2
    have hp : H1 pp = none := I2.hok.fresh hz1
    have hl2 : (((L2.map fun p => (p.2.data, V.ref p.1)).mergeSort (PySem.W.dataLe false fun b : D × V => b.1)).map Prod.snd).length ≤ sizeLine := by
      rw [List.length_map, List.length_mergeSort, List.length_map, pL.length_eq]
      omega
    have I3 : Inv X pins σ (upd H1 pp (.lst (((L2.map fun p => (p.2.data, V.ref p.1)).mergeSort (PySem.W.dataLe false fun b : D × V => b.1)).map Prod.snd))) ⟨h2, s1.gens, d2, t2, s1.os⟩ := Inv.call (s := { s1 with heap := h', toks := tk }) (h' := h2) (ch := []) I2 (Un.laid k1 hz1 hp) (I2.hok.laid (o := .lst (((L2.map fun p => (p.2.data, V.ref p.1)).mergeSort (PySem.W.dataLe false fun b : D × V => b.1)).map Prod.snd)) k1 hz1 ⟨hl2, out, c, k3, hob⟩) I2.bare (fun _ z => nomatch z)
    exact ⟨.ref pp, _, I3, rfl, qq _ _ k2 hl2 hp⟩
end
end Dk
namespace Dk
section
variable {α : Type} (ok : α → Prop) (x y : α → Int)
def LeA (s t : Int) (π : α) : Prop := ∀ ρ, ok ρ → s * x π + t * y π ≤ s * x ρ + t * y ρ
variable {ok x y}
theorem lin4 {a b c d s1 t1 : Int} (hb : 0 < b) (ha : 0 < a) (hc : 0 < c) (hd : 0 < d) (H : 0 ≤ a * d - b * c) (H2 : 0 ≤ s1 * d - t1 * c) (H3 : s1 * b < t1 * a) : 0 < a * d - b * c := by
  by_cases h : 0 < a * d - b * c
  · exact h
  · have e : a * d = b * c := by omega
    have p1 := Int.mul_nonneg (Int.le_of_lt ha) H2
    have p2 := Int.mul_pos hc (show 0 < t1 * a - s1 * b by omega)
    have e2 : s1 * (a * d) = s1 * (b * c) := by rw [e]
    grind
theorem LeA.le {s t : Int} {π ρ : α} (h : LeA ok x y s t π) (hr : ok ρ) : 0 ≤ s * (x ρ - x π) + t * (y ρ - y π) := by
  have := h ρ hr
  rw [Int.mul_sub, Int.mul_sub]
  omega
structure Ot (ok : α → Prop) (x y : α → Int) (z : Bool) (π o : α) : Prop where
  ok_ : ok o
  yl : y o < y π
  d : ∃ s1 t1, 0 ≤ s1 ∧ (z = false → 0 < s1) ∧ 0 < t1 ∧ LeA ok x y s1 t1 o ∧ s1 * (x o - x π) < t1 * (y π - y o)
structure NxB (ok : α → Prop) (x y : α → Int) (π r : α) : Prop where
  a : y r < y π
  b : x π < x r
  l : LeA ok x y (y π - y r) (x r - x π) π
  lr : LeA ok x y (y π - y r) (x r - x π) r
  st : ∃ s1 t1, 0 ≤ s1 ∧ 0 < t1 ∧ LeA ok x y s1 t1 r ∧ s1 * (x r - x π) < t1 * (y π - y r)
structure Sws (ok : α → Prop) (x y : α → Int) (πs : List α) (ds : List (Int × Int)) : Prop where
  len : πs.length = ds.length + 1
  o : ∀ π ∈ πs, ok π
  st : ∀ (k : Nat) (π ρ : α) (d : Int × Int), πs[k]? = some π → πs[k + 1]? = some ρ → ds[k]? = some d → d = (y π - y ρ, x ρ - x π) ∧ 0 < d.1 ∧ 0 < d.2 ∧ LeA ok x y d.1 d.2 π ∧ LeA ok x y d.1 d.2 ρ
  up : ∀ (k : Nat) (d e : Int × Int), ds[k]? = some d → ds[k + 1]? = some e → 0 < d.1 * e.2 - d.2 * e.1
  fst : ∀ π, πs[0]? = some π → LeA ok x y 1 0 π
structure RunS (ok : α → Prop) (x y : α → Int) (πs : List α) (ds : List (Int × Int)) (π : α) (d0 : Int × Int) : Prop where
  sw : Sws ok x y πs ds
  last : πs[ds.length]? = some π
  b : LeA ok x y d0.1 d0.2 π
  s0 : 0 < d0.1
  t0 : 0 ≤ d0.2
  st : ∃ s1 t1, 0 ≤ s1 ∧ 0 < t1 ∧ LeA ok x y s1 t1 π ∧ s1 * d0.2 < t1 * d0.1
  ld : ∀ (k : Nat) (d : Int × Int), k + 1 = ds.length → ds[k]? = some d → d = d0
theorem RunS.start {π : α} (ho : ok π) (h : LeA ok x y 1 0 π) (st : ∃ s1 t1, 0 ≤ s1 ∧ 0 < t1 ∧ LeA ok x y s1 t1 π) : RunS ok x y [π] [] π (1, 0) := by
  refine ⟨⟨rfl, fun ρ hr => ?_, fun k a b d _ _ e => ?_, fun k d e h1 => ?_, fun ρ e => ?_⟩, rfl, h, by decide, by decide, ?_, fun k d e => ?_⟩
  · rw [List.mem_singleton.mp hr]; exact ho
  · simp at e
  · simp at h1
  · simp at e; rw [← e]; exact h
  · obtain ⟨s1, t1, h1, h2, h3⟩ := st
    exact ⟨s1, t1, h1, h2, h3, by simpa using h2⟩
  · simp at e
theorem RunS.step {πs : List α} {ds : List (Int × Int)} {π r : α} {d0 : Int × Int} (R : RunS ok x y πs ds π d0) (hr : ok r) (h : NxB ok x y π r) : RunS ok x y (πs ++ [r]) (ds ++ [(y π - y r, x r - x π)]) r (y π - y r, x r - x π) := by
  have ha : 0 < y π - y r := by have := h.a; omega
  have hb : 0 < x r - x π := by have := h.b; omega
  have hl := R.sw.len
  refine ⟨⟨by simp [hl], fun ρ hρ => ?_, fun k a b d e1 e2 e3 => ?_, fun k d e e1 e2 => ?_, fun ρ e => ?_⟩, ?_, h.lr, ha, by show 0 ≤ x r - x π; omega, h.st, fun k d e e2 => ?_⟩
  · rcases List.mem_append.mp hρ with hρ | hρ
    · exact R.sw.o ρ hρ
    · rw [List.mem_singleton.mp hρ]; exact hr
  · by_cases hk : k < ds.length
    · rw [List.getElem?_append_left hk] at e3
      rw [List.getElem?_append_left (by omega)] at e1 e2
      exact R.sw.st k a b d e1 e2 e3
    · have hk2 : k = ds.length := by
        have := (List.getElem?_eq_some_iff.mp e3).1
        simp at this
        omega
      subst hk2
      rw [List.getElem?_append_left (by omega), R.last] at e1
      rw [List.getElem?_append_right (by omega), show ds.length + 1 - πs.length = 0 by omega] at e2
      rw [List.getElem?_append_right (by omega), Nat.sub_self] at e3
      simp at e1 e2 e3
      subst e1 e2 e3
      exact ⟨rfl, ha, hb, h.l, h.lr⟩
  · by_cases hk : k + 1 < ds.length
    · rw [List.getElem?_append_left hk] at e2
      rw [List.getElem?_append_left (by omega)] at e1
      exact R.sw.up k d e e1 e2
    · have hk2 : k + 1 = ds.length := by
        have := (List.getElem?_eq_some_iff.mp e2).1
        simp at this
        omega
      rw [List.getElem?_append_left (by omega)] at e1
      rw [List.getElem?_append_right (by omega), show k + 1 - ds.length = 0 by omega] at e2
      simp at e2
      subst e2
      have ed := R.ld k d hk2 e1
      subst ed
      have hk3 : πs[k + 1]? = some π := by rw [hk2]; exact R.last
      obtain ⟨pp, hp⟩ : ∃ pp, πs[k]? = some pp := ⟨_, List.getElem?_eq_getElem (by omega)⟩
      obtain ⟨_, hd1, hd2, _, _⟩ := R.sw.st k pp π d hp hk3 e1
      obtain ⟨s1, t1, q1, q2, q3, q4⟩ := R.st
      have h1 := R.b.le hr
      have h2 := q3.le hr
      exact lin4 hd2 hd1 ha hb (by rw [show d.1 * (x r - x π) - d.2 * (y π - y r) = d.1 * (x r - x π) + d.2 * (y r - y π) by grind]; exact h1)
        (by rw [show s1 * (x r - x π) - t1 * (y π - y r) = s1 * (x r - x π) + t1 * (y r - y π) by grind]; exact h2) q4
  · rw [List.getElem?_append_left (by omega)] at e
    exact R.sw.fst ρ e
  · rw [List.length_append, List.length_singleton, ← hl, List.getElem?_append_right (Nat.le_refl _), Nat.sub_self]
    rfl
  · simp at e
    subst e
    rw [List.getElem?_append_right (Nat.le_refl _), Nat.sub_self] at e2
    simp at e2
    exact e2.symm
def Vx (ok : α → Prop) (x y : α → Int) (π : α) : Prop := ok π ∧ ∃ s t s' t', 0 ≤ s ∧ 0 ≤ t ∧ 0 ≤ s' ∧ 0 ≤ t' ∧ 0 < s * t' - s' * t ∧ LeA ok x y s t π ∧ LeA ok x y s' t' π
def dirAt (ds : List (Int × Int)) : Nat → Int × Int
  | 0 => (1, 0)
  | k + 1 => ds.getD k (0, 1)
structure Full (ok : α → Prop) (x y : α → Int) (πs : List α) (ds : List (Int × Int)) : Prop where
  sw : Sws ok x y πs ds
  end_ : ∀ π, πs[ds.length]? = some π → LeA ok x y 0 1 π
theorem dir_in {ds : List (Int × Int)} {k : Nat} (h : k < ds.length) : ds[k]? = some (dirAt ds (k + 1)) := by
  show _ = some (ds.getD k (0, 1))
  rw [List.getD_eq_getElem?_getD, List.getElem?_eq_getElem h]
  rfl
theorem dir_out {ds : List (Int × Int)} : dirAt ds (ds.length + 1) = (0, 1) := by
  show ds.getD ds.length (0, 1) = _
  rw [List.getD_eq_getElem?_getD, List.getElem?_eq_none (Nat.le_refl _)]
  rfl
theorem Full.two {πs : List α} {ds : List (Int × Int)} (F : Full ok x y πs ds) {k : Nat} {π : α} (h : πs[k]? = some π) : LeA ok x y (dirAt ds k).1 (dirAt ds k).2 π ∧ LeA ok x y (dirAt ds (k + 1)).1 (dirAt ds (k + 1)).2 π := by
  have hl := F.sw.len
  have hk := (List.getElem?_eq_some_iff.mp h).1
  constructor
  · cases k with
    | zero => exact F.sw.fst π h
    | succ k =>
      obtain ⟨pp, hp⟩ : ∃ pp, πs[k]? = some pp := ⟨_, List.getElem?_eq_getElem (by omega)⟩
      exact (F.sw.st k pp π _ hp h (dir_in (by omega))).2.2.2.2
  · by_cases e : k < ds.length
    · obtain ⟨pp, hp⟩ : ∃ pp, πs[k + 1]? = some pp := ⟨_, List.getElem?_eq_getElem (by omega)⟩
      exact (F.sw.st k π pp _ h hp (dir_in e)).2.2.2.1
    · have : k = ds.length := by omega
      subst this
      rw [dir_out]
      exact F.end_ π h
theorem Full.pos {πs : List α} {ds : List (Int × Int)} (F : Full ok x y πs ds) {k : Nat} (h : k ≤ ds.length + 1) : 0 ≤ (dirAt ds k).1 ∧ 0 ≤ (dirAt ds k).2 ∧ (k ≤ ds.length → 0 < (dirAt ds k).1) ∧ (1 ≤ k → 0 < (dirAt ds k).2) := by
  have hl := F.sw.len
  cases k with
  | zero => exact ⟨show (0 : Int) ≤ 1 by decide, show (0 : Int) ≤ 0 by decide, fun _ => show (0 : Int) < 1 by decide, fun h => by omega⟩
  | succ k =>
    by_cases e : k < ds.length
    · obtain ⟨p1, hp1⟩ : ∃ pp, πs[k]? = some pp := ⟨_, List.getElem?_eq_getElem (by omega)⟩
      obtain ⟨p2, hp2⟩ : ∃ pp, πs[k + 1]? = some pp := ⟨_, List.getElem?_eq_getElem (by omega)⟩
      obtain ⟨_, h1, h2, _⟩ := F.sw.st k p1 p2 _ hp1 hp2 (dir_in e)
      exact ⟨by omega, by omega, fun _ => h1, fun _ => h2⟩
    · have : k = ds.length := by omega
      subst this
      rw [dir_out]
      exact ⟨by decide, by decide, fun h => by omega, fun _ => by decide⟩
theorem Full.turn {πs : List α} {ds : List (Int × Int)} (F : Full ok x y πs ds) {k : Nat} (h : k ≤ ds.length) : 0 < (dirAt ds k).1 * (dirAt ds (k + 1)).2 - (dirAt ds k).2 * (dirAt ds (k + 1)).1 := by
  cases k with
  | zero =>
    have := (F.pos (k := 1) (by omega)).2.2.2 (Nat.le_refl _)
    show 0 < 1 * (dirAt ds 1).2 - 0 * (dirAt ds 1).1
    omega
  | succ k =>
    by_cases e : k + 1 < ds.length
    · exact F.sw.up k _ _ (dir_in (by omega)) (dir_in e)
    · have : k + 1 = ds.length := by omega
      rw [this, dir_out]
      have := (F.pos (k := ds.length) (by omega)).2.2.1 (Nat.le_refl _)
      show 0 < (dirAt ds ds.length).1 * 1 - (dirAt ds ds.length).2 * 0
      omega
theorem Full.vx {πs : List α} {ds : List (Int × Int)} (F : Full ok x y πs ds) {π : α} (h : π ∈ πs) : Vx ok x y π := by
  obtain ⟨k, hk, e⟩ := List.mem_iff_getElem.mp h
  have hl := F.sw.len
  have h1 : πs[k]? = some π := by rw [List.getElem?_eq_getElem hk, e]
  obtain ⟨l1, l2⟩ := F.two h1
  obtain ⟨a1, a2, _, _⟩ := F.pos (k := k) (by omega)
  obtain ⟨b1, b2, _, _⟩ := F.pos (k := k + 1) (by omega)
  have ht := F.turn (k := k) (by omega)
  exact ⟨F.sw.o π h, _, _, _, _, a1, a2, b1, b2, by rw [Int.mul_comm (dirAt ds (k + 1)).1]; exact ht, l1, l2⟩
theorem Full.mid {πs : List α} {ds : List (Int × Int)} (F : Full ok x y πs ds) {s t : Int} (hs : 0 < s) (ht : 0 ≤ t) : ∃ k, k ≤ ds.length ∧ 0 ≤ (dirAt ds k).1 * t - (dirAt ds k).2 * s ∧ 0 ≤ s * (dirAt ds (k + 1)).2 - t * (dirAt ds (k + 1)).1 := by
  have key : ∀ j, j ≤ ds.length → 0 ≤ s * (dirAt ds (j + 1)).2 - t * (dirAt ds (j + 1)).1 → ∃ k, k ≤ ds.length ∧ 0 ≤ (dirAt ds k).1 * t - (dirAt ds k).2 * s ∧ 0 ≤ s * (dirAt ds (k + 1)).2 - t * (dirAt ds (k + 1)).1 := by
    intro j
    induction j with
    | zero =>
      intro h1 h2
      refine ⟨0, Nat.zero_le _, ?_, h2⟩
      show 0 ≤ 1 * t - 0 * s
      omega
    | succ j ih =>
      intro h1 h2
      by_cases e : 0 ≤ (dirAt ds (j + 1)).1 * t - (dirAt ds (j + 1)).2 * s
      · exact ⟨j + 1, h1, e, h2⟩
      · refine ih (by omega) ?_
        rw [Int.mul_comm s, Int.mul_comm t]
        omega
  refine key ds.length (Nat.le_refl _) ?_
  rw [dir_out]
  show 0 ≤ s * 1 - t * 0
  omega
theorem lin5 {u v s t s' t' : Int} (h1 : 0 ≤ s * u + t * v) (h2 : 0 ≤ s' * u + t' * v) (h3 : (s + s') * u + (t + t') * v = 0) (hd : 0 < s * t' - s' * t) : u = 0 ∧ v = 0 := by
  have e1 : s * u + t * v = 0 := by grind
  have e2 : s' * u + t' * v = 0 := by grind
  have k1 : (s * t' - s' * t) * u = 0 := by grind
  have k2 : (s * t' - s' * t) * v = 0 := by grind
  have hne : s * t' - s' * t ≠ 0 := by omega
  exact ⟨(Int.mul_eq_zero.mp k1).resolve_left hne, (Int.mul_eq_zero.mp k2).resolve_left hne⟩
theorem Full.has {πs : List α} {ds : List (Int × Int)} (F : Full ok x y πs ds) {π : α} (V : Vx ok x y π) : ∃ ρ ∈ πs, x ρ = x π ∧ y ρ = y π := by
  obtain ⟨ho, s, t, s', t', h1, h2, h3, h4, hd, l1, l2⟩ := V
  have hs : 0 < s := by
    by_cases e : 0 < s
    · exact e
    · have : s = 0 := by omega
      subst this
      have := Int.mul_nonneg h3 h2
      omega
  obtain ⟨k, hk, m1, m2⟩ := F.mid (s := s + s') (t := t + t') (by omega) (by omega)
  have hl := F.sw.len
  obtain ⟨ρ, hρ⟩ : ∃ pp, πs[k]? = some pp := ⟨_, List.getElem?_eq_getElem (by omega)⟩
  obtain ⟨r1, r2⟩ := F.two hρ
  have ht := F.turn hk
  have oρ := F.sw.o ρ (List.mem_of_getElem? hρ)
  refine ⟨ρ, List.mem_of_getElem? hρ, ?_⟩
  have q1 := r1.le ho
  have q2 := r2.le ho
  have q3 := l1.le oρ
  have q4 := l2.le oρ
  generalize (dirAt ds k).1 = a at *
  generalize (dirAt ds k).2 = b at *
  generalize (dirAt ds (k + 1)).1 = c at *
  generalize (dirAt ds (k + 1)).2 = d at *
  have w1 := Int.mul_nonneg m2 q1
  have w2 := Int.mul_nonneg m1 q2
  have e0 : 0 ≤ (a * d - b * c) * ((s + s') * (x π - x ρ) + (t + t') * (y π - y ρ)) := by grind
  have e1 : 0 ≤ (s + s') * (x π - x ρ) + (t + t') * (y π - y ρ) := by
    by_cases e : 0 ≤ (s + s') * (x π - x ρ) + (t + t') * (y π - y ρ)
    · exact e
    · have := Int.mul_neg_of_pos_of_neg ht (show (s + s') * (x π - x ρ) + (t + t') * (y π - y ρ) < 0 by omega)
      omega
  have := lin5 (u := x ρ - x π) (v := y ρ - y π) q3 q4 (by grind) hd
  omega
theorem nodup_sub {β : Type} : ∀ {xs ys : List β}, xs.Nodup → (∀ a ∈ xs, a ∈ ys) → xs.length ≤ ys.length
  | [], _, _, _ => Nat.zero_le _
  | a :: xs, ys, h, hs => by
    obtain ⟨h1, h2⟩ := List.nodup_cons.mp h
    obtain ⟨l, r, rfl⟩ := List.append_of_mem (hs a List.mem_cons_self)
    have := nodup_sub (xs := xs) (ys := l ++ r) h2 fun b hb => by
      have := hs b (List.mem_cons_of_mem _ hb)
      rcases List.mem_append.mp this with q | q
      · exact List.mem_append_left _ q
      · rcases List.mem_cons.mp q with q | q
        · subst q; exact absurd hb h1
        · exact List.mem_append_right _ q
    simp at this ⊢
    omega
theorem Full.xup {πs : List α} {ds : List (Int × Int)} (F : Sws ok x y πs ds) : (πs.map x).Pairwise (· < ·) ∧ (πs.map y).Pairwise (· > ·) := by
  have hl := F.len
  have st : ∀ k π ρ, πs[k]? = some π → πs[k + 1]? = some ρ → x π < x ρ ∧ y ρ < y π := fun k π ρ h1 h2 => by
    have hk : k < ds.length := by have := (List.getElem?_eq_some_iff.mp h2).1; omega
    obtain ⟨e, h3, h4, _⟩ := F.st k π ρ _ h1 h2 (List.getElem?_eq_getElem hk)
    rw [e] at h3 h4
    simp at h3 h4
    omega
  clear hl F
  constructor
  · induction πs with
    | nil => exact List.Pairwise.nil
    | cons a l ih =>
      have ih := ih fun k π ρ h1 h2 => st (k + 1) π ρ (by simpa using h1) (by simpa using h2)
      rw [List.map_cons]
      refine List.pairwise_cons.mpr ⟨fun z hz => ?_, ih⟩
      cases l with
      | nil => simp at hz
      | cons b l =>
        have h0 := (st 0 a b rfl rfl).1
        rw [List.map_cons] at hz ih
        rcases List.mem_cons.mp hz with rfl | hz
        · exact h0
        · have := (List.pairwise_cons.mp ih).1 z hz
          omega
  · induction πs with
    | nil => exact List.Pairwise.nil
    | cons a l ih =>
      have ih := ih fun k π ρ h1 h2 => st (k + 1) π ρ (by simpa using h1) (by simpa using h2)
      rw [List.map_cons]
      refine List.pairwise_cons.mpr ⟨fun z hz => ?_, ih⟩
      cases l with
      | nil => simp at hz
      | cons b l =>
        have h0 := (st 0 a b rfl rfl).2
        rw [List.map_cons] at hz ih
        rcases List.mem_cons.mp hz with rfl | hz
        · exact h0
        · have := (List.pairwise_cons.mp ih).1 z hz
          omega
theorem LeA.swap {s t : Int} {π : α} (h : LeA ok x y s t π) : LeA ok y x t s π := fun ρ hr => by have := h ρ hr; omega
theorem Vx.swap {π : α} (V : Vx ok x y π) : Vx ok y x π := by
  obtain ⟨ho, s, t, s', t', h1, h2, h3, h4, hd, l1, l2⟩ := V
  exact ⟨ho, t', s', t, s, h4, h3, h2, h1, by rw [Int.mul_comm t', Int.mul_comm t]; exact hd, l2.swap, l1.swap⟩
theorem Full.many {πs ρs : List α} {ds es : List (Int × Int)} (F : Full ok x y πs ds) (G : Full ok y x ρs es) : πs.length = ρs.length := by
  have n1 : (πs.map fun π => (x π, y π)).Nodup := by
    have := (Full.xup F.sw).1
    rw [List.pairwise_map] at this
    unfold List.Nodup
    rw [List.pairwise_map]
    exact this.imp fun {a b} h e => by injection e with e1 _; omega
  have n2 : (ρs.map fun π => (x π, y π)).Nodup := by
    have := (Full.xup G.sw).1
    rw [List.pairwise_map] at this
    unfold List.Nodup
    rw [List.pairwise_map]
    exact this.imp fun {a b} h e => by injection e with _ e1; omega
  have a := nodup_sub n1 (ys := ρs.map fun π => (x π, y π)) fun p hp => by
    obtain ⟨π, hπ, rfl⟩ := List.mem_map.mp hp
    obtain ⟨ρ, hρ, e1, e2⟩ := G.has (F.vx hπ).swap
    exact List.mem_map.mpr ⟨ρ, hρ, by rw [e1, e2]⟩
  have b := nodup_sub n2 (ys := πs.map fun π => (x π, y π)) fun p hp => by
    obtain ⟨π, hπ, rfl⟩ := List.mem_map.mp hp
    obtain ⟨ρ, hρ, e1, e2⟩ := F.has (G.vx hπ).swap
    exact List.mem_map.mpr ⟨ρ, hρ, by rw [e1, e2]⟩
  simp at a b
  omega
end
end Dk
namespace Dk
open PySem PySem.Spec PyProof.Rows L2
section
variable {S : Type} [StK S]
end
def joinV (p q : List Int) (s t : Int) : List Int := List.zipWith (fun a b => a * s + b * t) p q
abbrev hugeI : Int := 10 ^ 220
structure Line (m : Memo) (cs : List (List Int)) (size : Nat) (p q : List Int) : Prop where
  hm : Good m
  n0 : m ≠ []
  K : PriceOk m cs size
  s4 : size ≤ 4
  c4 : cs.length ≤ 4
  pl : p.length = cs.length
  ql : q.length = cs.length
  pb : ∀ x ∈ p, 0 ≤ x ∧ x ≤ hugeI
  qb : ∀ x ∈ q, 0 ≤ x ∧ x ≤ hugeI
abbrev lastN (m : Memo) : Nat := m.length - 1
abbrev okP (m : Memo) : Pl → Prop := PlOk m (lastN m)
abbrev vL (m : Memo) (cs : List (List Int)) (p : List Int) (π : Pl) : Int := vP m cs p (lastN m) π
theorem nab_of {x : Int} {n : Nat} (h0 : 0 ≤ x) (h : x ≤ (n : Int)) : x.natAbs ≤ n := by omega
section
variable {m : Memo} {cs : List (List Int)} {size : Nat} {p q : List Int}
theorem Line.swap (L : Line m cs size p q) : Line m cs size q p := ⟨L.hm, L.n0, L.K, L.s4, L.c4, L.ql, L.pl, L.qb, L.pb⟩
theorem Line.own (L : Line m cs size p q) {π : Pl} (h : okP m π) : ∀ x ∈ ownC cs (amP m (lastN m) π), 0 ≤ x ∧ x ≤ 136000000000000000 := fun x hx => by
  obtain ⟨c, hc, rfl⟩ := List.mem_map.mp hx
  obtain ⟨h1, h2⟩ := L.K.co c hc
  have := dot_bd (A := 1000) (B := 34000000000000) (by decide) (by decide) h2 (L.K.ap L.hm h)
  have s4 := L.s4
  refine ⟨this.1, Int.le_trans this.2 ?_⟩
  have : (c.length : Int) ≤ 4 := by omega
  omega
theorem Line.pos (L : Line m cs size p q) : lastN m < m.length := by
  have := List.length_pos_iff.mpr L.n0
  show m.length - 1 < m.length
  omega
theorem Line.ch (L : Line m cs size p q) (mix : List Int) : okP m (lastP cs mix m) ∧ (∀ ρ, okP m ρ → vL m cs mix (lastP cs mix m) ≤ vL m cs mix ρ) ∧ vL m cs mix (lastP cs mix m) = gI (numbersL cs mix m) (lastN m) := by
  obtain ⟨h1, h2⟩ := best_ok (cs := cs) (mix := mix) L.hm L.K.sizes (lastN m) L.pos
  refine ⟨h1, fun ρ hr => ?_, h2⟩
  have := nums_le (cs := cs) (mix := mix) L.hm L.K.sizes hr
  show vP m cs mix (lastN m) ((bests cs mix m).getD (m.length - 1) (.mk 0 [])) ≤ _
  rw [show m.length - 1 = lastN m from rfl, h2]
  exact this
theorem Line.costP (L : Line m cs size p q) : CostOk m cs p size := ⟨L.K.am, by have := L.s4; omega, L.K.co, L.pl, fun x hx => by
  have e : hugeI ≤ ((2 ^ 4000 : Nat) : Int) := by decide +kernel
  have := L.pb x hx
  exact nab_of (by omega) (by omega)⟩
abbrev meetV (m : Memo) (cs : List (List Int)) (p q : List Int) (π o : Pl) : List Int := joinV p q (vL m cs q π - vL m cs q o) (vL m cs p o - vL m cs p π)
inductive NextR (m : Memo) (cs : List (List Int)) (p q : List Int) (π : Pl) : Pl → Pl → Prop
  | a (o : Pl) : vL m cs p o ≤ vL m cs p π → NextR m cs p q π o o
  | b (o : Pl) : vL m cs p π < vL m cs p o → vL m cs (meetV m cs p q π o) π = gI (numbersL cs (meetV m cs p q π o) m) (lastN m) → NextR m cs p q π o o
  | c (o r : Pl) : vL m cs p π < vL m cs p o → vL m cs (meetV m cs p q π o) π ≠ gI (numbersL cs (meetV m cs p q π o) m) (lastN m) → NextR m cs p q π (lastP cs (meetV m cs p q π o) m) r → NextR m cs p q π o r
inductive FirstR (m : Memo) (cs : List (List Int)) (p q : List Int) : Pl → Pl → Prop
  | a (π : Pl) : vL m cs q π = vL m cs q (lastP cs q m) → FirstR m cs p q π π
  | b (π f : Pl) : vL m cs q π ≠ vL m cs q (lastP cs q m) → NextR m cs p q π (lastP cs q m) f → vL m cs p π < vL m cs p f → FirstR m cs p q π π
  | c (π f r : Pl) : vL m cs q π ≠ vL m cs q (lastP cs q m) → NextR m cs p q π (lastP cs q m) f → ¬ vL m cs p π < vL m cs p f → FirstR m cs p q f r → FirstR m cs p q π r
abbrev dirV (m : Memo) (cs : List (List Int)) (p q : List Int) (π r : Pl) : Int × Int := (vL m cs q π - vL m cs q r, vL m cs p r - vL m cs p π)
inductive SwR (m : Memo) (cs : List (List Int)) (p q : List Int) : List Pl → List (Int × Int) → Pl → List Pl → List (Int × Int) → Prop
  | a (πs : List Pl) (ds : List (Int × Int)) (π : Pl) : vL m cs q π = vL m cs q (lastP cs q m) → SwR m cs p q πs ds π πs ds
  | c (πs : List Pl) (ds : List (Int × Int)) (π r : Pl) (πs' : List Pl) (ds' : List (Int × Int)) : vL m cs q π ≠ vL m cs q (lastP cs q m) → NextR m cs p q π (lastP cs q m) r → SwR m cs p q (πs ++ [r]) (ds ++ [dirV m cs p q π r]) r πs' ds' → SwR m cs p q πs ds π πs' ds'
end
theorem Line.pw {m : Memo} {cs : List (List Int)} {size : Nat} {p q : List Int} (L : Line m cs size p q) : ∀ x ∈ p, x.natAbs ≤ 2 ^ 4000 := L.costP.mx
end Dk
namespace Dk
open PySem PySem.Spec PyProof.Rows L2
abbrev Col := Int × Int
def colD (c : Col) : D := .tuple [.int c.1, .int c.2]
abbrev Bnd := Col × Str × Int
def bndD (b : Bnd) : D := .tuple [colD b.1, .str b.2.1, .int b.2.2]
abbrev Eql := Col × Col
def eqlD (e : Eql) : D := .tuple [colD e.1, colD e.2]
structure Qy where
  occ : List Int
  bnd : List Bnd
  eqs : List Eql
  out : List Col
  grp : Option Col
def grpD : Option Col → D
  | none => .none
  | some c => colD c
def qyD (q : Qy) : D := .tuple [tupI q.occ, .tuple (q.bnd.map bndD), .tuple (q.eqs.map eqlD), .tuple (q.out.map colD), grpD q.grp]
structure SchOk (sc : List Int) : Prop where
  l1 : 1 ≤ sc.length
  l4 : sc.length ≤ 4
  c : ∀ x ∈ sc, 1 ≤ x ∧ x ≤ 3
def ColOk (sc occ : List Int) (c : Col) : Prop := 0 ≤ c.1 ∧ c.1 < occ.length ∧ 0 ≤ c.2 ∧ c.2 < gI sc (gI occ c.1.toNat).toNat
def isWd (w : Str) : Prop := w = ("least" : Str) ∨ w = ("most" : Str)
def BndOk (sc occ : List Int) (b : Bnd) : Prop := ColOk sc occ b.1 ∧ isWd b.2.1 ∧ 0 ≤ b.2.2 ∧ b.2.2 ≤ 99
def EqlOk (sc occ : List Int) (e : Eql) : Prop := ColOk sc occ e.1 ∧ ColOk sc occ e.2 ∧ e.1.1 < e.2.1
def Up (ds : List D) : Prop := ds.Pairwise fun a b => PySem.W.dataLt a b = true
structure QyOk (sc : List Int) (most : Nat) (q : Qy) : Prop where
  o1 : 1 ≤ q.occ.length
  o3 : q.occ.length ≤ most
  oc : ∀ o ∈ q.occ, 0 ≤ o ∧ o < sc.length
  b4 : q.bnd.length ≤ 4
  b : ∀ b ∈ q.bnd, BndOk sc q.occ b
  bs : Up (q.bnd.map bndD)
  e3 : q.eqs.length ≤ 3
  e : ∀ e ∈ q.eqs, EqlOk sc q.occ e
  es : Up (q.eqs.map eqlD)
  u4 : q.out.length ≤ 4
  u : ∀ c ∈ q.out, ColOk sc q.occ c
  g : ∀ c, q.grp = some c → ColOk sc q.occ c ∧ q.out = []
theorem all_map {f : D → Bool} {α : Type} {g : α → D} {p : α → Prop} (h1 : ∀ d, f d = true → ∃ a, d = g a ∧ p a) : ∀ {ds : List D}, ds.all f = true → ∃ as : List α, ds = as.map g ∧ ∀ a ∈ as, p a
  | [], _ => ⟨[], rfl, fun a h => by cases h⟩
  | d :: ds, h => by
    rw [List.all_cons, Bool.and_eq_true] at h
    obtain ⟨as, rfl, ha⟩ := all_map h1 h.2
    obtain ⟨a, rfl, hp⟩ := h1 d h.1
    exact ⟨a :: as, rfl, fun x hx => by
      rcases List.mem_cons.mp hx with rfl | hx
      · exact hp
      · exact ha x hx⟩
theorem pkT_col (c : Col) : pkT (colD c) = true := rfl
theorem pkT_bnd (b : Bnd) : pkT (bndD b) = true := rfl
theorem pkT_eql (e : Eql) : pkT (eqlD e) = true := rfl
theorem alike_col (a b : Col) : PySem.W.alike (colD a) (colD b) = true := by simp [colD, PySem.W.alike, PySem.W.alikeAll]
theorem alike_bnd (a b : Bnd) : PySem.W.alike (bndD a) (bndD b) = true := by simp [bndD, alike_col, PySem.W.alike, PySem.W.alikeAll]
theorem alike_eql (a b : Eql) : PySem.W.alike (eqlD a) (eqlD b) = true := by simp [eqlD, alike_col, PySem.W.alike, PySem.W.alikeAll]
theorem kind_ok {α : Type} {g : α → D} (h1 : ∀ a, pkT (g a) = true) (h2 : ∀ a b, PySem.W.alike (g a) (g b) = true) (h3 : ∀ a, ∃ x r, g a = .tuple (x :: r)) (as : List α) : (as.map g).all pkT = true ∧ sortOk (as.map g) := by
  refine ⟨List.all_eq_true.mpr fun d hd => ?_, fun d hd e he => ?_, .inl fun d hd => ?_, fun d hd => ?_⟩
  · obtain ⟨a, _, rfl⟩ := List.mem_map.mp hd
    exact h1 a
  · obtain ⟨a, _, rfl⟩ := List.mem_map.mp hd
    obtain ⟨b, _, rfl⟩ := List.mem_map.mp he
    exact h2 a b
  · obtain ⟨a, _, rfl⟩ := List.mem_map.mp hd
    exact h3 a
  · obtain ⟨a, _, rfl⟩ := List.mem_map.mp hd
    have := (pkT_pk (h1 a)).2.1
    omega
theorem bnds_ok (bs : List Bnd) : (bs.map bndD).all pkT = true ∧ sortOk (bs.map bndD) := kind_ok pkT_bnd alike_bnd (fun a => ⟨_, _, rfl⟩) bs
theorem eqls_ok (es : List Eql) : (es.map eqlD).all pkT = true ∧ sortOk (es.map eqlD) := kind_ok pkT_eql alike_eql (fun a => ⟨_, _, rfl⟩) es
theorem cols_ok (cs : List Col) : (cs.map colD).all pkT = true ∧ sortOk (cs.map colD) := kind_ok pkT_col alike_col (fun a => ⟨_, _, rfl⟩) cs
theorem nset_map {α : Type} {g : α → D} {as : List α} (h : (as.map g).all pkT = true ∧ sortOk (as.map g)) : ∃ bs : List α, sortD (uniqD (as.map g)) = bs.map g ∧ (∀ b ∈ bs, b ∈ as) ∧ Up (bs.map g) ∧ bs.length ≤ as.length := by
  have up := nset_up (fun d hd => (pkT_pk (List.all_eq_true.mp h.1 d hd)).1) h.2.1
  have mem : ∀ d ∈ sortD (uniqD (as.map g)), ∃ a ∈ as, g a = d := fun d hd => List.mem_map.mp (nset_mem.mp hd)
  have pick : ∀ L : List D, (∀ d ∈ L, ∃ a ∈ as, g a = d) → ∃ bs : List α, L = bs.map g ∧ ∀ b ∈ bs, b ∈ as := by
    intro L
    induction L with
    | nil => exact fun _ => ⟨[], rfl, fun b h => by cases h⟩
    | cons d r ih =>
      intro hl
      obtain ⟨bs, rfl, hb⟩ := ih fun e he => hl e (List.mem_cons_of_mem _ he)
      obtain ⟨a, ha, rfl⟩ := hl d List.mem_cons_self
      exact ⟨a :: bs, rfl, fun x hx => by
        rcases List.mem_cons.mp hx with rfl | hx
        · exact ha
        · exact hb x hx⟩
  obtain ⟨bs, e, hb⟩ := pick _ mem
  refine ⟨bs, e, hb, by rw [← e]; exact up, ?_⟩
  have l1 : (sortD (uniqD (as.map g))).length = (uniqD (as.map g)).length := List.length_mergeSort _
  have l2 := uniqD_le (as.map g)
  rw [e, List.length_map] at l1
  rw [List.length_map] at l2
  omega
def spDrawSch : DSp := fun as pn P => ∃ (p : Pen) (b : Nat), as = [.pen] ∧ pn = some p ∧ Bud p (b + 5) ∧ ∀ sc p', SchOk sc → Bud p' b → P (tupI sc) (some p')
def spDrawCol : DSp := fun as pn P => ∃ (p : Pen) (sc occ : List Int) (b : Nat), as = [.pen, .val (tupI sc), .val (tupI occ)] ∧ SchOk sc ∧ 1 ≤ occ.length ∧ occ.length ≤ 3 ∧ (∀ o ∈ occ, 0 ≤ o ∧ o < sc.length) ∧ pn = some p ∧ Bud p (b + 2) ∧ ∀ c p', ColOk sc occ c → Bud p' b → P (colD c) (some p')
def spDrawQy : DSp := fun as pn P => ∃ (p : Pen) (sc : List Int) (most b : Nat), as = [.pen, .val (tupI sc), .val (.int most)] ∧ SchOk sc ∧ 1 ≤ most ∧ most ≤ 3 ∧ pn = some p ∧ Bud p (b + 60) ∧ ∀ q p', QyOk sc most q → Bud p' b → P (qyD q) (some p')
end Dk
namespace Dk
open PySem PySem.Spec PyProof.Rows L2
section
variable {S : Type} [StK S] {K : Fg} {B : Bs} {pa : Option Addr} {zs : List (Option V)} {H F H' F' : Hp} {ws : List Sl} {pn pn' : S} {xs : List D} {i : Nat} {a : Addr}
theorem Rel.takeOut (R : Rel K B pa zs H F ws pn) (hi : ws[i]? = some (.own xs)) : ∃ v, zs[i]? = some (some v) ∧ Rel K B pa (zs ++ [some v]) H F (ws.set i .un ++ [.own xs]) pn := by
  obtain ⟨o, h1, a, vs, e, h2, h3, h4, h5⟩ := R.sl i _ hi
  subst e
  have hiw := (List.getElem?_eq_some_iff.mp hi).1
  have hl := R.len
  refine ⟨.ref a, h1, by simp [hl], R.fh, R.base, R.f0, R.fr, fun j s e => ?_, fun j k ys ys' b e1 e2 e3 e4 => ?_, ?_, R.pal, R.sz, R.tg⟩
  · rcases get_app e with e | ⟨ej, es⟩
    · by_cases hj : j = i
      · subst hj
        rw [List.getElem?_set_self hiw] at e
        cases e
        exact ⟨_, app_get h1, trivial⟩
      · rw [List.getElem?_set_ne (Ne.symm hj)] at e
        obtain ⟨o', q1, q2⟩ := R.sl j s e
        exact ⟨o', app_get q1, q2⟩
    · subst es
      rw [List.length_set] at ej
      rw [ej, ← hl, app_last]
      exact ⟨_, rfl, a, vs, rfl, h2, h3, h4, h5⟩
  · have src : ∀ (j : Nat) (ys : List D), (ws.set i .un ++ [.own xs])[j]? = some (.own ys) → (zs ++ [some (.ref a)])[j]? = some (some (.ref b)) → ∃ m, ws[m]? = some (.own ys) ∧ zs[m]? = some (some (.ref b)) ∧ ((j = ws.length ∧ m = i) ∨ (j = m ∧ m ≠ i ∧ m < ws.length)) := fun j ys e1 e3 => by
      rcases get_app e1 with e | ⟨ej, es⟩
      · by_cases hj : j = i
        · subst hj
          rw [List.getElem?_set_self hiw] at e
          cases e
        · rw [List.getElem?_set_ne (Ne.symm hj)] at e
          have hjl := (List.getElem?_eq_some_iff.mp e).1
          rw [List.getElem?_append_left (by omega)] at e3
          exact ⟨j, e, e3, .inr ⟨rfl, hj, hjl⟩⟩
      · cases es
        rw [List.length_set] at ej
        rw [ej, ← hl, app_last] at e3
        cases e3
        exact ⟨i, hi, h1, .inl ⟨ej, rfl⟩⟩
    obtain ⟨m, m1, m2, m3⟩ := src j ys e1 e3
    obtain ⟨n, n1, n2, n3⟩ := src k ys' e2 e4
    have := R.inj m n ys ys' b m1 n1 m2 n2
    omega
  · obtain ⟨T, t⟩ := R.st
    refine ⟨T, t.r, t.hn, t.fn, t.bs, fun j ys b e1 e3 => ?_⟩
    rcases get_app e1 with e | ⟨ej, es⟩
    · by_cases hj : j = i
      · subst hj
        rw [List.getElem?_set_self hiw] at e
        cases e
      · rw [List.getElem?_set_ne (Ne.symm hj)] at e
        have hjl := (List.getElem?_eq_some_iff.mp e).1
        rw [List.getElem?_append_left (by omega)] at e3
        exact t.ap j ys b e e3
    · cases es
      rw [List.length_set] at ej
      rw [ej, ← hl, app_last] at e3
      cases e3
      exact t.ap i xs _ hi h1
theorem Rel.pushOwnAt {vs : List V} (R : Rel K B pa zs H F ws pn) (h : H a = some (.lst vs)) (hd : DRs K F xs vs) (hf : F a = none) (h0 : B.H0 a = none) (hno : ∀ (i : Nat) (ys : List D), ws[i]? = some (.own ys) → zs[i]? ≠ some (some (.ref a))) (hT : ∀ T, StR K B pa zs H F ws pn T → ∃ T', StR K B pa zs H F ws pn T' ∧ ¬ T' a) :
    Rel K B pa (zs ++ [some (.ref a)]) H F (ws ++ [.own xs]) pn := by
  have hl := R.len
  have old : ∀ (j : Nat) (ys : List D) (b : Addr), (ws ++ [.own xs])[j]? = some (.own ys) → (zs ++ [some (.ref a)])[j]? = some (some (.ref b)) → (ws[j]? = some (.own ys) ∧ zs[j]? = some (some (.ref b)) ∧ b ≠ a) ∨ (j = ws.length ∧ b = a) := fun j ys b e1 e3 => by
    rcases get_app e1 with e | ⟨ej, es⟩
    · have hjl := (List.getElem?_eq_some_iff.mp e).1
      rw [List.getElem?_append_left (by omega)] at e3
      exact .inl ⟨e, e3, fun z => hno j ys e (by rw [← z]; exact e3)⟩
    · rw [ej, ← hl, app_last] at e3
      cases e3
      exact .inr ⟨ej, rfl⟩
  obtain ⟨T0, t0⟩ := R.st
  obtain ⟨T, t, na⟩ := hT T0 t0
  refine ⟨by simp [hl], R.fh, R.base, R.f0, R.fr, fun j s e => ?_, fun j k ys ys' b e1 e2 e3 e4 => ?_, ⟨T, t.r, t.hn, t.fn, t.bs, fun j ys b e1 e3 => ?_⟩, R.pal, R.sz, R.tg⟩
  · rcases get_app e with e | ⟨ej, es⟩
    · obtain ⟨o', q1, q2⟩ := R.sl j s e
      exact ⟨o', app_get q1, q2⟩
    · subst es
      rw [ej, ← hl, app_last]
      exact ⟨_, rfl, a, vs, rfl, h, hd, hf, h0⟩
  · rcases old j ys b e1 e3 with ⟨p1, p2, p3⟩ | ⟨p1, p2⟩
    · rcases old k ys' b e2 e4 with ⟨q1, q2, q3⟩ | ⟨q1, q2⟩
      · exact R.inj j k ys ys' b p1 q1 p2 q2
      · exact absurd q2 p3
    · rcases old k ys' b e2 e4 with ⟨q1, q2, q3⟩ | ⟨q1, q2⟩
      · exact absurd p2 q3
      · omega
  · rcases old j ys b e1 e3 with ⟨p1, p2, p3⟩ | ⟨p1, p2⟩
    · exact t.ap j ys b p1 p2
    · rw [p2]
      exact na
end
abbrev DSpO (S : Type := Option Pen) := List Arg → S → (List D → S → Prop) → Prop
def NewL (K : Fg) {S : Type} [StK S] (pa : Option Addr) (H F : Hp) (T : Addr → Prop) (xs : List D) (s' : S) (v : V) (H' : Hp) : Prop :=
  ∃ F' T' p vs, v = .ref p ∧ Szs H' ∧ Le F F' ∧ Le F' H' ∧ (∀ b o, F' b = some o → F b = some o ∨ H b = none ∨ T b) ∧ (∀ b o, H b = some o → ¬ T b → H' b = some o) ∧ StK.R K pa H' F' s' T' ∧ (∀ b, T' b → (T b ∨ H b = none) ∧ H' b ≠ none ∧ F' b = none) ∧ (∀ b, T b → H' b ≠ none) ∧
    H' p = some (.lst vs) ∧ DRs K F' xs vs ∧ F' p = none ∧ H p = none ∧ ¬ T' p
def spOfO {S : Type} [StK S] (K : Fg) (n : Nat) (dsp : DSpO S) : Sp := fun vs H Q _ => ∃ F pa T as s P, Szs H ∧ Le F H ∧ ArgsR K H F pa T as vs ∧ StK.R K pa H F s T ∧ (∀ b, T b → H b ≠ none ∧ F b = none) ∧ as.length = n ∧ dsp as s P ∧
  ∀ xs s' v H', P xs s' → NewL K pa H F T xs s' v H' → Q v H'
abbrev FnO {S : Type} [StK S] (P : Program) (w : World) (K : Fg) (mg : Str → Option Value) (base : Heap) (k : Nat) (f : Addr) (fd : FuncData) (ps : List Str) (dsp : DSpO S) : Prop := FnG P w K mg base CX0 k f fd ps (spOfO K ps.length dsp)
theorem newL_of {S : Type} [StK S] {K : Fg} {H F : Hp} {pa : Option Addr} {T : Addr → Prop} {zs : List (Option V)} {ws : List Sl} {xs : List D} {pn : S} {v : V} {H' F' : Hp} (R : Rel K ⟨H, F, T⟩ pa (zs ++ [some v]) H' F' (ws ++ [.own xs]) pn) : NewL K pa H F T xs pn v H' := by
  obtain ⟨⟨p, vs, e, g1, g2, g3, g4⟩, g5⟩ := Rel.last (s := .own xs) R
  cases e
  obtain ⟨T', t⟩ := R.st
  exact ⟨F', T', p, vs, rfl, R.sz, R.f0, R.fh, R.fr, R.base, t.r, fun b hb => ⟨(t.bs b hb).symm, t.hn b hb, t.fn b hb⟩, R.pal, g1, g2, g3, g4, t.ap _ xs p (app_last _ _) g5⟩
section
variable {S : Type} [StK S] {X : Cx} {e : Expr} {te : DW S} {pos : Pos}
def dRetO (t : DW S) : DS S := fun E ρ => t ρ fun r ρ1 => match r with
  | .own xs => E.ro xs ρ1.pn
  | .val _ => False
theorem cs_retO (he : CE (S := S) X e te) : CS (S := S) X (.Return (some e) pos) (dRetO te) := ps_mono (ps_ret he) fun Z σ H ⟨B, pa, τ, F, ρ, θ, E, R, hl, h, q⟩ =>
  ofE ⟨B, pa, τ, F, ρ, θ, _, R, hl, h, fun r ρ1 v H1 F1 h1 l1 R1 => by
    cases r with
    | val d => exact h1.elim
    | own xs => exact q.ro _ _ xs _ v H1 F1 h1 R1⟩
def dMove (i : Nat) : DW S := fun ρ P => match ρ.sl[i]? with
  | some (.own xs) => P (.own xs) { ρ with sl := ρ.sl.set i .un }
  | _ => False
theorem ce_move (i : Nat) {x : Str} {pos : Pos} (hN : X.N[i]? = some x := by rfl) (hv : Vis X.env.scope x := by first | exact Or.inl rfl | exact Or.inr (Or.inl rfl) | exact Or.inr (Or.inr rfl)) (hd : (x == ("__debug__" : Str)) = false := by decide)
    (hcd : (x == ("__classdict__" : Str)) = false := by decide) : CE (S := S) X (.Name x pos) (dMove i) := pe_mono (pe_var hN hv hd hcd) fun σ H Q ⟨B, pa, τ, F, ρ, θ, P, R, hl, h, q⟩ => by
  have h : dMove i ρ fun r ρ' => P (.tmp r) ρ' := h
  unfold dMove at h
  split at h
  · rename_i xs hi
    have hlt := (List.getElem?_eq_some_iff.mp hi).1
    obtain ⟨v, h1, R1⟩ := R.takeOut (i := i) (xs := xs) (by rw [List.getElem?_append_left hlt]; exact hi)
    rw [List.set_append_left _ _ hlt] at R1
    exact ⟨v, left_get (by rw [← hl]; exact hlt) h1, q (.tmp (.own xs)) { ρ with sl := ρ.sl.set i .un } v H F h (by simpa using hl) R1 (fun j e => by cases e)⟩
  · exact h.elim
end
theorem FnO.mk {S : Type} [StK S] [NoTag S] {P : Program} {w : World} {K : Fg} {mg : Str → Option Value} {base : Heap} {x : Str} {st : Stmt} {f : Addr} {fd : FuncData} {N ps : List Str} {k : Nat} {dsp : DSpO S} {t : DS S} (Fu : Dfn K mg x st f fd) (Sc : FnScope N ps (defScope st))
    (hbody : ∀ (cdv : Value) (A : Around) (outer : List Env) (s : Shared) (H : Hp) (E : XK), XO (cx0 P w K mg base N x (defScope st) f cdv A outer s H E) k → CSs (S := S) (cx0 P w K mg base N x (defScope st) f cdv A outer s H E) (defBody st) t)
    (hlaw : ∀ as pn Q, as.length = ps.length → dsp as pn Q → t { nx := fun _ => False, rt := fun _ _ => False, ro := Q } ⟨startD N.length as, pn⟩) : FnO P w K mg base (k + 1) f fd ps dsp := by
  obtain ⟨oc, od, dV, kV, doc, pm, an, cdv, ct, osl, rfl, lk, hcd, hD, _⟩ := Fu.F.ex
  refine fng_of lk hcd Sc (fun vs H Q E ⟨F, pa, T, as, pn, P, _, _, h, _, _, hl, _⟩ => by rw [h.len, hl]) fun A outer s H vs Q E hr hgd hsp => ?_
  obtain ⟨F, pa, T, as, pn, PQ, hz, hF, ha, hp, hpl', hl, hd, q⟩ := hsp
  have X0 : XO (cx0 P w K mg base N x (defScope st) f cdv A outer s H E) k := ⟨rfl, hr, hgd, Sc.nd, PassesOwn.never⟩
  refine ⟨_, (hbody cdv A outer s H E X0).nox, ⟨H, F, T⟩, pa, [], F, ⟨startD N.length as, pn⟩, [], _, by
    have h := rel_start (N := N) hz hF ha hp hpl'
    rw [List.append_nil, List.append_nil]
    exact h, by
      have hpl : ps.length ≤ N.length := by have := congrArg List.length Sc.pre; rw [List.length_take] at this; omega
      simp [L2.start, startD, ha.len], hlaw as pn PQ hl hd, ?_⟩
  exact ⟨fun _ _ _ _ h => h.elim, fun _ _ _ _ h => h.elim, fun _ _ _ _ h => h.elim, fun _ _ _ _ _ _ _ h => h.elim, fun zs ws xs pn v H' F' h R => q xs pn v H' h (newL_of R)⟩
theorem FnO.none {S : Type} [StK S] {P : Program} {w : World} {K : Fg} {mg : Str → Option Value} {base : Heap} {k : Nat} {f : Addr} {fd : FuncData} {ps : List Str} {dsp : DSpO S} (h : ∀ as pn P, ¬ dsp as pn P) : FnO P w K mg base k f fd ps dsp :=
  ⟨fun vs H Q E ⟨F, pa, T, as, pn, P, _, _, _, _, _, _, q, _⟩ => (h _ _ _ q).elim, fun A outer s H args us vs Q E _ _ _ _ _ ⟨F, pa, T, as, pn, P, _, _, _, _, _, _, q, _⟩ => (h _ _ _ q).elim⟩
def dCallO {S : Type} [StK S] (n : Nat) (dsp : DSpO S) (ta : AW S) : DW S := fun ρ P => ta ρ fun ks ρ1 => gets (toArgs ρ1 ks) fun as => as.length = n ∧ dsp as ρ1.pn fun xs pn' => P (.own xs) ⟨ρ1.sl, pn'⟩
section
variable {S : Type} [StK S] {X : Cx} {k : Nat} {f : Addr} {fd : FuncData} {ps : List Str} {dsp : DSpO S} {x : Str} {p pos : Pos} {e : Expr} {es : List Expr} {ta : AW S}
theorem callO_step [NoTag S] {K : Fg} {n : Nat} {dsp : DSpO S} {ta : AW S} {σ : L2.St} {H : Hp} {Q : VK} (h : liftO K (tmpD (dCallO n dsp ta)) σ H Q) : liftA K ta σ H fun vs H1 => spOfO K n dsp vs H1 Q E0 := by
  obtain ⟨B, pa, τ, F, ρ, θ, P, R, hl, h, q⟩ := toE h
  refine ⟨B, pa, τ, F, ρ, θ, _, R, hl, h, fun ks ρ1 vs H1 F1 h1 hl1 hk R1 s1 => ?_⟩
  obtain ⟨as, e1, hn, h1⟩ := gets_elim h1
  have R2 : Rel K B pa (σ ++ τ) H1 F1 (ρ1.sl ++ θ) ρ1.pn := R1.pops (by simp [hk])
  have hτ : τ.length = θ.length := by have := R2.len; simp at this; omega
  obtain ⟨T, t⟩ := R1.st
  have t2 := Rel.popsT R2.len t
  refine ⟨F1, pa, T, as, ρ1.pn, _, R2.sz, R2.fh, args_all hl1 ks vs τ θ as hτ hk (by simpa only [List.append_assoc] using R1) (by simpa only [List.append_assoc] using t) s1 e1, t.r, fun b hb => ⟨t.hn b hb, t.fn b hb⟩, hn, h1, fun xs pn' v H' hp ⟨F', T', a, us, ev, hz, hF, hFH, hfr, hH, hr, hT, hpl, g1, g2, g3, g4, g5⟩ => ?_⟩
  subst ev
  have R3 : Rel K B pa (σ ++ τ) H' F' (ρ1.sl ++ θ) pn' := R2.called t2 hH hF hFH hfr hr (fun b hb => (hT b hb).1) (fun b hb => (hT b hb).2.1) (fun b hb => (hT b hb).2.2) (fun b hb => by
    by_cases hTb : T b
    · exact hpl b hTb
    · obtain ⟨u, e⟩ := Option.ne_none_iff_exists'.mp hb
      rw [hH b u e hTb]
      exact nofun) hz (by rw [NoTag.no, NoTag.no])
  have hno : ∀ (i : Nat) (ys : List D), (ρ1.sl ++ θ)[i]? = some (.own ys) → (σ ++ τ)[i]? ≠ some (some (.ref a)) := fun i ys e1 e2 => by
    obtain ⟨o, q1, b, ws, q2, q3, _⟩ := R2.sl i _ e1
    rw [e2] at q1
    cases q1
    cases q2
    rw [g4] at q3
    cases q3
  have st : StR K B pa (σ ++ τ) H' F' (ρ1.sl ++ θ) pn' T' := ⟨hr, fun b hb => (hT b hb).2.1, fun b hb => (hT b hb).2.2, fun b hb => by
    rcases (hT b hb).1 with z | z
    · exact t2.bs b z
    · exact .inl (R2.hnone z).2.1, fun i ys b e1 e2 hb => by
    obtain ⟨o, q1, c, ws, q2, q3, _⟩ := R2.sl i _ e1
    rw [e2] at q1
    cases q1
    cases q2
    rcases (hT b hb).1 with z | z
    · exact t2.ap i ys b e1 e2 z
    · rw [z] at q3
      cases q3⟩
  exact q (.own xs) ⟨ρ1.sl, pn'⟩ (.ref a) H' F' hp hl1 (R3.pushOwnAt g1 g2 g3 (R2.hnone g4).2.1 hno fun _ _ => ⟨T', st, g5⟩)
theorem ce_callO [NoTag S] (F : FnO X.prog X.w X.K X.mg X.base k f fd ps dsp) (O : XO X k) (hm : X.mg x = some (.ref f)) (hk : PySem.W.keepIn X.K (.ref f) = true) (hb : Binds X.K fd ps []) (ha : CA X (e :: es) ta) (hg : Gl X x := by rfl) (hdb : (x == ("__debug__" : Str)) = false := by decide)
    (he : starEach (e :: es) X.env = (false, eval e X.env) :: starEach es X.env := by rfl) (hpl : (backTo pos (starEach es X.env)).any (·.1) = false := by rfl) : CE (S := S) X (.Call (.Name x p) (e :: es) [] pos) (dCallO ps.length dsp ta) :=
  pe_mono (pe_callG F O.room O.gd hg hm hk hb .nil pass0 ha hdb he hpl) fun _ _ _ h => by
    have := callO_step h
    simp only [tCall, List.append_nil]
    exact this
end
section
variable {S : Type} [StK S] {E : DE S} {s0 : Sl} {l0 : List Sl} {pn : S} {te : DW S} {aa : AW S} {n i : Nat} {P : Rs → En S → Prop} {xs : List D}
@[simp↓] theorem z_dRetO : dRetO te E ⟨s0 :: l0, pn⟩ = te ⟨s0 :: l0, pn⟩ fun r ρ1 => match r with
  | .own xs => E.ro xs ρ1.pn
  | .val _ => False := rfl
@[simp↓] theorem z_dMove : dMove i ⟨s0 :: l0, pn⟩ P = match (s0 :: l0)[i]? with
  | some (.own xs) => P (.own xs) ⟨(s0 :: l0).set i .un, pn⟩
  | _ => False := rfl
@[simp↓] theorem z_dCallO {dsp : DSpO S} : dCallO n dsp aa ⟨s0 :: l0, pn⟩ P = aa ⟨s0 :: l0, pn⟩ fun ks ρ1 => gets (toArgs ρ1 ks) fun as => as.length = n ∧ dsp as ρ1.pn fun xs pn' => P (.own xs) ⟨ρ1.sl, pn'⟩ := rfl
end
end Dk
namespace Dk
open PySem PySem.Spec PyProof.Rows L2
abbrev Tbl := List (List Int)
abbrev Dbs := List Tbl
def tblD (t : Tbl) : D := .tuple (t.map tupI)
def dbsD (db : Dbs) : D := .tuple (db.map tblD)
structure DbOk (sc : List Int) (most : Nat) (db : Dbs) : Prop where
  len : db.length = sc.length
  rows : ∀ (i : Nat) (t : Tbl), db[i]? = some t → t.length ≤ most ∧ ∀ r ∈ t, (r.length : Int) = gI sc i ∧ ∀ x ∈ r, 0 ≤ x ∧ x ≤ 99
def tabQ (q : Qy) (db : Dbs) (o : Int) : Tbl := db.getD (gI q.occ o.toNat).toNat []
def rowQ (q : Qy) (db : Dbs) (o p : Int) : List Int := (tabQ q db o).getD p.toNat []
def rowsQ (q : Qy) (db : Dbs) (so pl : List Int) : Tbl := List.zipWith (rowQ q db) so pl
def valQ (so : List Int) (rows : Tbl) (c : Col) : Int := gI (rows.getD (so.idxOf c.1) []) c.2.toNat
def bndT (b : Bnd) (v : Int) : Bool := if b.2.1 = ("least" : Str) then decide (b.2.2 ≤ v) else decide (v ≤ b.2.2)
def bOkQ (so : List Int) (rows : Tbl) (b : Bnd) : Bool := !decide (b.1.1 ∈ so) || bndT b (valQ so rows b.1)
def eOkQ (so : List Int) (rows : Tbl) (e : Eql) : Bool := !(decide (e.1.1 ∈ so) && decide (e.2.1 ∈ so)) || decide (valQ so rows e.1 = valQ so rows e.2)
def holdQ (q : Qy) (so : List Int) (rows : Tbl) : Bool := q.bnd.all (bOkQ so rows) && q.eqs.all (eOkQ so rows)
def rngI (n : Nat) : List Int := (List.range n).map fun (i : Nat) => (i : Int)
def extQ (q : Qy) (db : Dbs) (o : Int) (pl : List Int) : List (List Int) := (rngI (tabQ q db o).length).map fun p => pl ++ [p]
def allC (q : Qy) (db : Dbs) (so : List Int) : List (List Int) := so.foldl (fun acc o => acc.flatMap (extQ q db o)) [[]]
def choL (q : Qy) (db : Dbs) (so : List Int) : List (List Int) := (allC q db so).filter fun pl => holdQ q so (rowsQ q db so pl)
theorem allC_snoc {q : Qy} {db : Dbs} {so : List Int} {o : Int} : allC q db (so ++ [o]) = (allC q db so).flatMap (extQ q db o) := by simp [allC, List.foldl_append]
structure PlcOk (q : Qy) (db : Dbs) (so pl : List Int) : Prop where
  len : pl.length = so.length
  at_ : ∀ (i : Nat) (o p : Int), so[i]? = some o → pl[i]? = some p → 0 ≤ p ∧ p < (tabQ q db o).length
theorem PlcOk.nil {q : Qy} {db : Dbs} : PlcOk q db [] [] := ⟨rfl, fun i o p h _ => by simp at h⟩
theorem PlcOk.snoc {q : Qy} {db : Dbs} {so pl : List Int} {o p : Int} (h : PlcOk q db so pl) (h0 : 0 ≤ p) (h1 : p < (tabQ q db o).length) : PlcOk q db (so ++ [o]) (pl ++ [p]) := by
  refine ⟨by simp [h.len], fun i a b e1 e2 => ?_⟩
  rcases get_app e1 with e1 | ⟨i1, e1⟩
  · have hi := (List.getElem?_eq_some_iff.mp e1).1
    rw [List.getElem?_append_left (by rw [h.len]; exact hi)] at e2
    exact h.at_ i a b e1 e2
  · rw [i1, ← h.len, app_last] at e2
    cases e2
    rw [← e1]
    exact ⟨h0, h1⟩
theorem rngI_mem {n : Nat} {p : Int} (h : p ∈ rngI n) : 0 ≤ p ∧ p < n := by
  obtain ⟨i, hi, rfl⟩ := List.mem_map.mp h
  have := List.mem_range.mp hi
  omega
theorem snocInd {α : Type} {P : List α → Prop} (h0 : P []) (h1 : ∀ l x, P l → P (l ++ [x])) : ∀ l, P l := by
  intro l
  have : ∀ r : List α, P r.reverse := by
    intro r
    induction r with
    | nil => exact h0
    | cons x r ih => rw [List.reverse_cons]; exact h1 _ _ ih
  simpa using this l.reverse
theorem allC_ok {q : Qy} {db : Dbs} : ∀ (so pl : List Int), pl ∈ allC q db so → PlcOk q db so pl := by
  refine snocInd (P := fun so => ∀ pl, pl ∈ allC q db so → PlcOk q db so pl) (fun pl h => ?_) fun so o ih pl h => ?_
  · have : pl = [] := by simpa [allC] using h
    subst this
    exact .nil
  · rw [allC_snoc] at h
    obtain ⟨pl0, h0, h1⟩ := List.mem_flatMap.mp h
    obtain ⟨p, hp, rfl⟩ := List.mem_map.mp h1
    have := rngI_mem hp
    exact (ih pl0 h0).snoc this.1 this.2
theorem choL_ok {q : Qy} {db : Dbs} {so pl : List Int} (h : pl ∈ choL q db so) : PlcOk q db so pl := allC_ok so pl (List.mem_filter.mp h).1
theorem flat_le {α β : Type} {f : α → List β} {m : Nat} : ∀ {l : List α}, (∀ x ∈ l, (f x).length ≤ m) → (l.flatMap f).length ≤ l.length * m
  | [], _ => by simp
  | x :: l, h => by
    rw [List.flatMap_cons, List.length_append, List.length_cons, Nat.succ_mul]
    have := h x List.mem_cons_self
    have := flat_le (l := l) fun y hy => h y (List.mem_cons_of_mem _ hy)
    omega
theorem extQ_len {q : Qy} {db : Dbs} {o : Int} {pl : List Int} : (extQ q db o pl).length = (tabQ q db o).length := by simp [extQ, rngI]
theorem allC_len {q : Qy} {db : Dbs} {m : Nat} (hm : ∀ o, (tabQ q db o).length ≤ m) : ∀ so : List Int, (allC q db so).length ≤ m ^ so.length := by
  refine snocInd (P := fun so => (allC q db so).length ≤ m ^ so.length) (by simp [allC]) fun so o ih => ?_
  rw [allC_snoc, List.length_append]
  refine Nat.le_trans (flat_le (m := m) fun x _ => by rw [extQ_len]; exact hm o) ?_
  show _ ≤ m ^ (so.length + 1)
  rw [Nat.pow_succ]
  exact Nat.mul_le_mul_right m ih
theorem choL_len {q : Qy} {db : Dbs} {m : Nat} (hm : ∀ o, (tabQ q db o).length ≤ m) (so : List Int) : (choL q db so).length ≤ m ^ so.length := Nat.le_trans (List.length_filter_le _ _) (allC_len hm so)
theorem rowsQ_snoc {q : Qy} {db : Dbs} {so pl : List Int} {o p : Int} (h : pl.length = so.length) : rowsQ q db (so ++ [o]) (pl ++ [p]) = rowsQ q db so pl ++ [rowQ q db o p] := by
  unfold rowsQ
  rw [List.zipWith_append h.symm]
  rfl
theorem valQ_snoc {so : List Int} {rows : Tbl} {o : Int} {r : List Int} {c : Col} (h : c.1 ∈ so) (hl : rows.length = so.length) : valQ (so ++ [o]) (rows ++ [r]) c = valQ so rows c := by
  have hi : so.idxOf c.1 < so.length := List.idxOf_lt_length_of_mem h
  unfold valQ
  rw [List.idxOf_append, if_pos h, List.getD_eq_getElem?_getD, List.getElem?_append_left (by omega), ← List.getD_eq_getElem?_getD]
theorem rowsQ_len {q : Qy} {db : Dbs} {so pl : List Int} (h : pl.length = so.length) : (rowsQ q db so pl).length = so.length := by simp [rowsQ, h]
theorem hold_less {q : Qy} {db : Dbs} {so pl : List Int} {o p : Int} (h : pl.length = so.length) (hh : holdQ q (so ++ [o]) (rowsQ q db (so ++ [o]) (pl ++ [p])) = true) : holdQ q so (rowsQ q db so pl) = true := by
  rw [rowsQ_snoc h] at hh
  have hl := rowsQ_len (q := q) (db := db) h
  unfold holdQ at hh ⊢
  simp only [Bool.and_eq_true, List.all_eq_true] at hh ⊢
  refine ⟨fun b hb => ?_, fun e he => ?_⟩
  · have := hh.1 b hb
    unfold bOkQ at this ⊢
    simp only [Bool.or_eq_true, Bool.not_eq_true', decide_eq_false_iff_not] at this ⊢
    by_cases hm : b.1.1 ∈ so
    · rw [valQ_snoc hm hl] at this
      exact .inr (this.resolve_left fun n => n (List.mem_append_left _ hm))
    · exact .inl hm
  · have := hh.2 e he
    unfold eOkQ at this ⊢
    simp only [Bool.or_eq_true, Bool.not_eq_true', Bool.and_eq_false_iff, decide_eq_false_iff_not, decide_eq_true_eq] at this ⊢
    by_cases hm : e.1.1 ∈ so
    · by_cases hm2 : e.2.1 ∈ so
      · rw [valQ_snoc hm hl, valQ_snoc hm2 hl] at this
        refine .inr (this.resolve_left ?_)
        rintro (n | n)
        · exact n (List.mem_append_left _ hm)
        · exact n (List.mem_append_left _ hm2)
      · exact .inl (.inr hm2)
    · exact .inl (.inl hm)
theorem filter_flat {α β : Type} {p : α → Bool} {t : β → Bool} {f : α → List β} : ∀ {l : List α}, (∀ x ∈ l, p x = false → ∀ y ∈ f x, t y = false) → ((l.filter p).flatMap f).filter t = (l.flatMap f).filter t
  | [], _ => rfl
  | x :: l, h => by
    have ih := filter_flat (l := l) fun y hy => h y (List.mem_cons_of_mem _ hy)
    rw [List.flatMap_cons, List.filter_append, ← ih]
    by_cases hp : p x = true
    · rw [List.filter_cons_of_pos hp, List.flatMap_cons, List.filter_append]
    · rw [List.filter_cons_of_neg hp]
      have : (f x).filter t = [] := List.filter_eq_nil_iff.mpr fun y hy => by rw [h x List.mem_cons_self (by simpa using hp) y hy]; exact Bool.false_ne_true
      rw [this, List.nil_append]
theorem cho_step {q : Qy} {db : Dbs} {so : List Int} {o : Int} : (((choL q db so).flatMap (extQ q db o)).filter fun pl => holdQ q (so ++ [o]) (rowsQ q db (so ++ [o]) pl)) = choL q db (so ++ [o]) := by
  unfold choL
  rw [allC_snoc]
  refine filter_flat fun pl hpl hf y hy => ?_
  obtain ⟨p, _, rfl⟩ := List.mem_map.mp hy
  cases e : holdQ q (so ++ [o]) (rowsQ q db (so ++ [o]) (pl ++ [p])) with
  | false => rfl
  | true => rw [hold_less (allC_ok so pl hpl).len e] at hf; cases hf
theorem gI_memQ {xs : List Int} {i : Int} (h0 : 0 ≤ i) (h1 : i < xs.length) : gI xs i.toNat ∈ xs := by
  have hi : i.toNat < xs.length := by omega
  rw [show gI xs i.toNat = xs[i.toNat] from gI_of (List.getElem?_eq_getElem hi)]
  exact List.getElem_mem hi
theorem gI_atQ {xs : List Int} {i : Int} (h0 : 0 ≤ i) (h1 : i < xs.length) (K : D → Prop) : gets (atI (xs.map PyData.int) i) K = K (.int (gI xs i.toNat)) := by
  rw [Dk.atI_of h0, List.getElem?_map, List.getElem?_eq_getElem (by omega)]
  unfold gI
  rw [List.getD_eq_getElem?_getD, List.getElem?_eq_getElem (by omega)]
  rfl
structure QdOk (sc : List Int) (most : Nat) (q : Qy) (db : Dbs) : Prop where
  s : SchOk sc
  q : QyOk sc 3 q
  d : DbOk sc most db
  m : most ≤ 10
def SoOk (q : Qy) (so : List Int) : Prop := so.length ≤ 3 ∧ ∀ o ∈ so, 0 ≤ o ∧ o < q.occ.length
section
variable {sc : List Int} {most : Nat} {q : Qy} {db : Dbs} {so pl : List Int} {o : Int} {c : Col}
theorem QdOk.occ (Z : QdOk sc most q db) (h0 : 0 ≤ o) (h1 : o < q.occ.length) : 0 ≤ gI q.occ o.toNat ∧ gI q.occ o.toNat < sc.length := Z.q.oc _ (gI_memQ h0 h1)
theorem QdOk.tab (Z : QdOk sc most q db) (h0 : 0 ≤ o) (h1 : o < q.occ.length) : db[(gI q.occ o.toNat).toNat]? = some (tabQ q db o) := by
  have h := Z.occ h0 h1
  unfold tabQ
  rw [List.getD_eq_getElem?_getD, List.getElem?_eq_getElem (by rw [Z.d.len]; omega)]
  rfl
theorem tab_le (Z : QdOk sc most q db) (o : Int) : (tabQ q db o).length ≤ most := by
  unfold tabQ
  rw [List.getD_eq_getElem?_getD]
  cases e : db[(gI q.occ o.toNat).toNat]? with
  | none => exact Nat.zero_le _
  | some t => exact (Z.d.rows _ t e).1
theorem QdOk.row (Z : QdOk sc most q db) (h0 : 0 ≤ o) (h1 : o < q.occ.length) {p : Int} (p0 : 0 ≤ p) (p1 : p < (tabQ q db o).length) : (tabQ q db o)[p.toNat]? = some (rowQ q db o p) ∧ ((rowQ q db o p).length : Int) = gI sc (gI q.occ o.toNat).toNat := by
  have e : (tabQ q db o)[p.toNat]? = some (rowQ q db o p) := by
    unfold rowQ
    rw [List.getD_eq_getElem?_getD, List.getElem?_eq_getElem (by omega)]
    rfl
  exact ⟨e, ((Z.d.rows _ _ (Z.tab h0 h1)).2 _ (List.mem_of_getElem? e)).1⟩
theorem val_fit (Z : QdOk sc most q db) (S : SoOk q so) (P : PlcOk q db so pl) (hc : ColOk sc q.occ c) (hm : c.1 ∈ so) :
    so.idxOf c.1 < (rowsQ q db so pl).length ∧ 0 ≤ c.2 ∧ c.2 < (((rowsQ q db so pl).getD (so.idxOf c.1) []).length : Int) := by
  have hi : so.idxOf c.1 < so.length := List.idxOf_lt_length_of_mem hm
  have hl := rowsQ_len (q := q) (db := db) P.len
  refine ⟨by omega, hc.2.2.1, ?_⟩
  have e1 : so[so.idxOf c.1]? = some c.1 := by rw [List.getElem?_eq_getElem hi, List.getElem_idxOf hi]
  obtain ⟨p, e2⟩ : ∃ p, pl[so.idxOf c.1]? = some p := ⟨_, List.getElem?_eq_getElem (by rw [P.len]; exact hi)⟩
  obtain ⟨p0, p1⟩ := P.at_ _ _ _ e1 e2
  have e3 : (rowsQ q db so pl).getD (so.idxOf c.1) [] = rowQ q db c.1 p := by
    unfold rowsQ
    rw [List.getD_eq_getElem?_getD, List.getElem?_zipWith, e1, e2]
    rfl
  have hs := S.2 _ hm
  rw [e3, (Z.row hs.1 hs.2 p0 p1).2]
  exact hc.2.2.2
end
def spValIn : DSp := fun as pn P => ∃ (so : List Int) (rows : Tbl) (c : Col), as = [.val (tupI so), .val (.list (rows.map tupI)), .val (colD c)] ∧ c.1 ∈ so ∧ so.idxOf c.1 < rows.length ∧ 0 ≤ c.2 ∧ c.2 < ((rows.getD (so.idxOf c.1) []).length : Int) ∧ P (.int (valQ so rows c)) pn
def spBndH : DSp := fun as pn P => ∃ (b : Bnd) (v : Int), as = [.val (bndD b), .val (.int v)] ∧ isWd b.2.1 ∧ P (.bool (bndT b v)) pn
def spHold : DSp := fun as pn P => ∃ (sc : List Int) (most : Nat) (q : Qy) (db : Dbs) (so pl : List Int), as = [.val (qyD q), .val (tupI so), .val (.list ((rowsQ q db so pl).map tupI))] ∧ QdOk sc most q db ∧ SoOk q so ∧ PlcOk q db so pl ∧ P (.bool (holdQ q so (rowsQ q db so pl))) pn
def spRowsAt : DSp := fun as pn P => ∃ (sc : List Int) (most : Nat) (q : Qy) (db : Dbs) (so pl : List Int), as = [.val (qyD q), .val (dbsD db), .val (tupI so), .val (tupI pl)] ∧ QdOk sc most q db ∧ SoOk q so ∧ PlcOk q db so pl ∧ P (.list ((rowsQ q db so pl).map tupI)) pn
def spChoO : DSpO := fun as pn P => ∃ (sc : List Int) (most : Nat) (q : Qy) (db : Dbs) (so : List Int), as = [.val (qyD q), .val (dbsD db), .val (tupI so)] ∧ QdOk sc most q db ∧ SoOk q so ∧ P ((choL q db so).map tupI) pn
def spCho : DSp := fun as pn P => ∃ (sc : List Int) (most : Nat) (q : Qy) (db : Dbs) (so : List Int), as = [.val (qyD q), .val (dbsD db), .val (tupI so)] ∧ QdOk sc most q db ∧ SoOk q so ∧ P (.list ((choL q db so).map tupI)) pn
def joinQ (q : Qy) (db : Dbs) (so pl : List Int) : List Int := (rowsQ q db so pl).flatten
def spJoined : DSp := fun as pn P => ∃ (sc : List Int) (most : Nat) (q : Qy) (db : Dbs) (so pl : List Int), as = [.val (qyD q), .val (dbsD db), .val (tupI so), .val (tupI pl)] ∧ QdOk sc most q db ∧ SoOk q so ∧ PlcOk q db so pl ∧ P (tupI (joinQ q db so pl)) pn
def spJoin1 : DSp := fun as pn P => ∃ rows : Tbl, as = [.val (.list (rows.map tupI))] ∧ rows.length ≤ 3 ∧ (∀ r ∈ rows, r.length ≤ 3) ∧ P (tupI rows.flatten) pn
def occsQ (q : Qy) : List Int := rngI q.occ.length
def spOccs : DSp := fun as pn P => ∃ (q : Qy) (sc : List Int), as = [.val (qyD q)] ∧ QyOk sc 3 q ∧ P (tupI (occsQ q)) pn
def rowsA (q : Qy) (db : Dbs) : List Tbl := (choL q db (occsQ q)).map (rowsQ q db (occsQ q))
def outA (q : Qy) (db : Dbs) : List D := (rowsA q db).map fun rows => tupI (q.out.map (valQ (occsQ q) rows))
def grpA (q : Qy) (db : Dbs) (c : Col) : List Int := (rowsA q db).map fun rows => valQ (occsQ q) rows c
open Classical in
noncomputable def answerA (q : Qy) (db : Dbs) : List D := match q.grp with
  | none => sortD (outA q db)
  | some c => (sortU (grpA q db c)).map fun v => .tuple [.int v, .int ((grpA q db c).count v : Nat)]
noncomputable def spAnsO : DSpO := fun as pn P => ∃ (sc : List Int) (most : Nat) (q : Qy) (db : Dbs), as = [.val (qyD q), .val (dbsD db)] ∧ QdOk sc most q db ∧ P (answerA q db) pn
noncomputable def spAns : DSp := fun as pn P => ∃ (sc : List Int) (most : Nat) (q : Qy) (db : Dbs), as = [.val (qyD q), .val (dbsD db)] ∧ QdOk sc most q db ∧ P (.list (answerA q db)) pn
end Dk
namespace Dk
open PySem PySem.Spec PyProof.Rows L2
variable {S : Type} [StK S]
def tTix (K : Fg) (to ta : TE) : TE := fun σ H Q => to σ H fun x H1 => (∃ a vs, x = .ref a ∧ CqT K H1 a vs) ∧ ta σ H1 fun y H2 => ∃ (a : Addr) (ns : List Int) (k : Int), x = .ref a ∧ y = .int k ∧ SqT K H2 a (ns.map V.int) ∧ k ∈ ns ∧ Q (.int (ns.idxOf k : Nat)) H2
theorem cqt_is {X : Cx} {pins : List (Addr × Obj)} {σ : L2.St} {H : Hp} {s : Shared} {a : Addr} {vs : List V} (I : L2.Inv X pins σ H s) (h : CqT X.K H a vs) : ∃ o, s.heap.get? a = some o ∧ o.cls = .type "tuple" ∧ o.dict = none := by
  rcases h with ⟨o, h, hd⟩ | ⟨o, its, n, h1, ⟨h2, h3⟩, _⟩
  · obtain ⟨e, _, _, _, o', e', c, _⟩ := I.hok a _ h
    rw [e] at e'
    cases e'
    exact ⟨o, e, c, hd⟩
  · exact ⟨o, I.kIn a o h1, h2, h3⟩
section
variable {X : Cx} {a b : Expr} {to ta : TE} {t u : OW S} {apos cpos : Pos} {k : Nat}
theorem pe_tix (ho : PE X a to) (ha : PE X b ta) (hbase : attributeBase a "index" X.env (eval a X.env) = eval a X.env)
    (hfew : ((backTo cpos (starEach [b] X.env)).all (fun x => !x.1) && (backToKw cpos (keywordEach [] X.env)).all (fun x => x.1.isSome) && decide ([b].length + ([] : List Keyword).length + (if ([] : List Keyword).isEmpty then 0 else 1) < 30)) = true)
    (hline : (apos.endLine == cpos.line) = true) (hs : starEach [b] X.env = (false, eval b X.env) :: starEach [] X.env) (hplain : (backTo cpos (starEach [] X.env)).any (·.1) = false) :
    PE X (.Call (.Attribute a "index" apos) [b] [] cpos) (tTix X.K to ta) := by
  refine ⟨fun pins s σ H Q I h => ?_⟩
  refine wpAny_Call_method_late hbase hfew hline rfl (thn (ho.run pins s σ H _ I h) fun v s1 ⟨x, H1, J, rx, ⟨l, vs, ex, hc⟩, q1⟩ => ?_)
  subst ex
  obtain rfl : v = .ref l := rx
  obtain ⟨o, g1, g2, g3⟩ := cqt_is J hc
  refine ⟨"tuple", "tuple.index", PySem.F.plainAttrs_tuple, PySem.F.slot_tuple_index, PySem.F.type_tuple_index, ⟨o, g1, g2⟩, fun c e => by cases e; exact ⟨o, g1, g3⟩, ?_⟩
  have hA := (pa_cons ha pa_nil hs).run cpos pins s1 σ H1 (fun us H2 => match us with
    | [y] => ∃ (a : Addr) (ns : List Int) (k : Int), V.ref l = .ref a ∧ y = .int k ∧ SqT X.K H2 a (ns.map V.int) ∧ k ∈ ns ∧ Q (.int (ns.idxOf k : Nat)) H2
    | _ => False) J q1
  rw [hs] at hA ⊢
  refine Calls.callWith_builtin (by show (false || (backTo cpos (starEach [] X.env)).any (·.1)) = false; rw [hplain] <;> rfl) (Calls.evalArgs_plain ?_)
  refine thn hA fun us s2 ⟨vs, H2, J2, r2, q2⟩ => ?_
  match vs, q2, r2 with
  | [], q2, _ => exact False.elim q2
  | _ :: _ :: _, q2, _ => exact False.elim q2
  | [y], q2, r2 =>
  obtain ⟨a', ns, k', e1, e2, h1, h2, q2⟩ := q2
  subst e2
  cases e1
  obtain ⟨u1, eu, t1, eu1⟩ := vals1 r2
  subst eu eu1
  obtain ⟨is, ra, tp, _⟩ := J2.tuple h1
  exact SeqAt.tuple_index_ints (vs := is) tp (intsAre_of ra) h2 ⟨.int (ns.idxOf k' : Nat), H2, J2.tok _, ⟨_, rfl⟩, q2⟩
def isTup : Option D → Bool
  | some (.tuple _) => true
  | _ => false
def tixD : D → D → Option Rs
  | .tuple ds, .int k => (ints? ds).bind fun ns => if k ∈ ns then some (ri (ns.idxOf k : Nat)) else none
  | _, _ => none
def dTix (t u : OW S) : DW S := fun ρ P => t ρ fun k1 ρ1 => isTup (k1.rd ρ1) = true ∧ u ρ1 fun k2 ρ2 => gets (k1.rd ρ2) fun d1 => gets (k2.rd ρ2) fun d2 => gets (tixD d1 d2) fun r => P r ρ2
theorem rd_cqt {K : Fg} {H F : Hp} {ds : List D} {v : V} (h : RdD K H F (.tuple ds) v) (e : Le F H) : ∃ a vs, v = .ref a ∧ CqT K H a vs ∧ DRs K F ds vs := by
  rcases h with h | ⟨ds', a, vs, h1, _⟩
  · obtain ⟨a, vs, h1, h2, h3⟩ := DR.tupC_.mp h
    exact ⟨a, vs, h1, e.ct h2, h3⟩
  · cases h1
theorem ce_tix (ha : CO (S := S) X a t) (hb : CO (S := S) X b u)
    (hbase : attributeBase a "index" X.env (eval a X.env) = eval a X.env := by rfl)
    (hfew : ((backTo cpos (starEach [b] X.env)).all (fun x => !x.1) && (backToKw cpos (keywordEach [] X.env)).all (fun x => x.1.isSome) && decide ([b].length + ([] : List Keyword).length + (if ([] : List Keyword).isEmpty then 0 else 1) < 30)) = true := by rfl)
    (hline : (apos.endLine == cpos.line) = true := by rfl) (hs : starEach [b] X.env = (false, eval b X.env) :: starEach [] X.env := by rfl) (hplain : (backTo cpos (starEach [] X.env)).any (·.1) = false := by rfl) :
    CE (S := S) X (.Call (.Attribute a "index" apos) [b] [] cpos) (dTix t u) :=
  pe_mono (pe_tix ha hb hbase hfew hline hs hplain) fun σ H Q h => by
    obtain ⟨B, pa, τ, F, ρ, θ, P, R, hl, h, q⟩ := h
    refine ⟨B, pa, τ, F, ρ, θ, _, R, hl, h, fun k1 ρ1 v1 H1 F1 h1 hl1 R1 s1 => ?_⟩
    obtain ⟨hT, h1⟩ := h1
    have hτ : τ.length = θ.length := by have := R1.pop.len; simp at this; omega
    have R1' : Rel X.K B pa (σ ++ (τ ++ [some v1])) H1 F1 (ρ1.sl ++ (θ ++ [k1.sl])) ρ1.pn := by simpa only [List.append_assoc] using R1
    obtain ⟨ds0, eT⟩ : ∃ ds, k1.rd ρ1 = some (.tuple ds) := by
      unfold isTup at hT
      split at hT
      · exact ⟨_, by assumption⟩
      · cases hT
    have rd0 := read_at R1' hl1 τ.length (app_last _ _) (getN hτ.symm) s1 eT
    obtain ⟨a0, vs0, rfl, hA, _⟩ := rd_cqt rd0 R1.fh
    refine ⟨⟨a0, vs0, rfl, hA⟩, B, pa, τ ++ [some (.ref a0)], F1, ρ1, θ ++ [k1.sl], _, by simpa only [List.append_assoc] using R1, hl1, h1, fun k2 ρ2 v2 H2 F2 h2 hl2 R2 s2 => ?_⟩
    obtain ⟨d1, e1, h2⟩ := gets_elim h2
    obtain ⟨d2, e2, h2⟩ := gets_elim h2
    obtain ⟨r, e3, h2⟩ := gets_elim h2
    have R2' : Rel X.K B pa (σ ++ (τ ++ [some (.ref a0)] ++ [some v2])) H2 F2 (ρ2.sl ++ (θ ++ [k1.sl] ++ [k2.sl])) ρ2.pn := by
      simpa only [List.append_assoc] using R2
    have rd1 := read_at (k := k1) R2' hl2 τ.length (by simp) (by rw [hτ]; simp) s1 e1
    have rd2 := read_at (k := k2) R2' hl2 (τ.length + 1) (by simp) (by rw [hτ]; simp) s2 e2
    have e0 : ∃ ds k', d1 = .tuple ds ∧ d2 = .int k' := by
      cases d1 <;> first | (cases e3; done) | skip
      cases d2 <;> first | (cases e3; done) | skip
      exact ⟨_, _, rfl, rfl⟩
    obtain ⟨ds, k', ed1, ed2⟩ := e0
    subst ed1 ed2
    · obtain ⟨ns, en, e4⟩ := Option.bind_eq_some_iff.mp (show ((ints? ds).bind fun ns => if k' ∈ ns then some (ri (ns.idxOf k' : Nat)) else none) = some r from e3)
      obtain ⟨hm, rfl⟩ := some_ite e4
      obtain ⟨a1, vs1, ea, hB, hD⟩ := rd1.tuple R2.fh
      cases ea
      have ev := hD.inj_ints (ints?_eq en)
      subst ev
      have R3 : Rel X.K B pa (σ ++ τ) H2 F2 (ρ2.sl ++ θ) ρ2.pn := by
        have := R2.pop
        rw [← List.append_assoc, ← List.append_assoc] at this
        exact this.pop
      exact ⟨a0, ns, k', rfl, rd2.int, hB, hm, q _ _ _ _ _ h2 hl2 (R3.pushVal (d := .int (ns.idxOf k' : Nat)) (DR.int_.mpr rfl)) (fun i e => by cases e)⟩
end
@[simp↓] theorem z_dTix {s0 : Sl} {l0 : List Sl} {pn : S} {ta tb : (OW S)} {P : Rs → (En S) → Prop} : dTix ta tb ⟨s0 :: l0, pn⟩ P = ta ⟨s0 :: l0, pn⟩ fun k1 ρ1 => isTup (k1.rd ρ1) = true ∧ tb ρ1 fun k2 ρ2 => gets (k1.rd ρ2) fun d1 => gets (k2.rd ρ2) fun d2 => gets (tixD d1 d2) fun r => P r ρ2 := rfl
@[simp] theorem isTup_t {ds : List D} : isTup (some (.tuple ds)) = true := rfl
@[simp↓] theorem g_tix {ds : List D} {j : Int} {k : Rs → Prop} : gets (tixD (.tuple ds) (.int j)) k = gets (ints? ds) fun ns => j ∈ ns ∧ k (.val (.int (ns.idxOf j : Nat))) := by
  show gets ((ints? ds).bind fun ns => if j ∈ ns then some (ri (ns.idxOf j : Nat)) else none) k = _
  cases ints? ds with
  | none => rfl
  | some ns =>
    show gets (if j ∈ ns then some (ri (ns.idxOf j : Nat)) else none) k = _
    exact propext gets_ite
end Dk
namespace Dk
open PySem PySem.Spec PyProof.Rows L2 PySem.Calls
def NilT (s : Shared) (v : Value) : Prop := ∃ l o n, v = .ref l ∧ s.heap.get? l = some o ∧ o.cls = .type "tuple" ∧ o.data = .seq #[] n
section
variable {prog : Program} {w : World} {A : Around} {s : Shared} {E : Value → Shared → Prop}
theorem kind_nil {vs : List Value} {Q : SortKind → Shared → Prop} (h2 : 2 ≤ vs.length) (hT : ∀ v ∈ vs, NilT s v) (h : Q oneType' s) : wpAny (model prog w) A (keyKind' vs.toArray) Q E s := by
  have ty : ∀ v ∈ vs, PySem.W.Looks (model prog w) s.heap (typeOf v) (.type "tuple") := fun v hv => by
    obtain ⟨l, o, n, rfl, ho, hc, hd⟩ := hT v hv
    rw [← hc]
    exact (PySem.W.Looks.ld ho).andThen .now
  match vs, h2, hT, ty with
  | [], h2, _, _ => simp at h2
  | [_], h2, _, _ => simp at h2
  | v₁ :: v₂ :: rest, _, hT, ty =>
  rw [keyKind'_eq, List.mapM_toArray, map_eq_pure_bind]
  refine wpAny_bind (wpAny_bind (PySem.W.kas_mapM (r := none) _ (fun v hv Q' hq => ?_) (wpAny_pure ?_)))
  · rw [PySem.W.kas_first_eq]
    obtain ⟨l, o, n, rfl, ho, hc, hd⟩ := hT v hv
    refine wpAny_bind ((ty _ hv).here ?_)
    rw [if_neg (by decide)]
    exact wpAny_bind (listItems_at ho hd (wpAny_pure hq))
  · rw [if_neg (by simp), if_neg (by simp), oneTypeOnly'_eq, List.mapM_toArray, map_eq_pure_bind]
    refine wpAny_bind (wpAny_bind (wpAny_bind (PySem.W.kas_mapM (r := Value.type "tuple") _ (fun v hv Q' hq => (ty v hv).here hq) (wpAny_pure ?_))))
    have e0 : (List.map (fun _ => Value.type "tuple") (v₁ :: v₂ :: rest)).toArray[0]? = some (Value.type "tuple") := by simp
    have e1 : ((List.map (fun _ => Value.type "tuple") (v₁ :: v₂ :: rest)).toArray.all fun x => x == Value.type "tuple") = true := by
      simp only [List.all_toArray, List.all_map, List.all_eq_true]
      exact fun _ _ => beq_self_eq_true _
    rw [e0]
    simp only [e1, if_true]
    exact wpAny_pure (wpAny_pure h)
theorem oneLt_nil {x y : Value} {Q : Bool → Shared → Prop} (hx : NilT s x) (hy : NilT s y) (hu : A.units + 1 < cLine) (h : Q false s) : wpAny (model prog w) A (oneLt' true x y) Q E s := by
  obtain ⟨l, ⟨c, dd, da, sl⟩, n, rfl, h1, (h2 : c = _), (h3 : da = _)⟩ := hx
  obtain ⟨b, ⟨c', dd', da', sl'⟩, n', rfl, k1, (k2 : c' = _), (k3 : da' = _)⟩ := hy
  subst h2 h3 k2 k3
  rw [oneLt'_eq]
  simp only [if_true]
  refine wpAny_bind (wpAny_cRoomFor (by omega) ?_)
  refine wpAny_bind (wpAny_callSpecialIfBound?_slot (T := "tuple") ⟨_, h1, rfl⟩ PySem.F.slot_tuple_lt (call_meets PySem.F.slot_tuple_lt ⟨_, h1, rfl⟩ PySem.F.entry_tuple_lt (PySem.F.args_tuple_lt_2 _ _)
    (SeqAt.tuple_ltAt l b #[] #[] n n' dd dd' sl sl' (fun _ => true) (fun _ => true)) ⟨h1, k1, fun j q => absurd q (Nat.not_lt_zero _), fun j q => absurd q (Nat.not_lt_zero _), ?_⟩))
  exact wpAny_truthy_bool h
def AllNil (ds : List D) : Prop := ∀ d ∈ ds, d = .tuple []
theorem nil_reads {v : Value} {as : List Addr} (r : Reads s.heap v (.tuple []) as) : NilT s v := by
  cases r with
  | @tuple l o xs n _ _ a1 a2 a3 a4 =>
    have : xs = #[] := by
      cases q : xs.toList with
      | nil => exact Array.toList_inj.mp q
      | cons f fs => rw [q] at a4; cases a4
    subst this
    exact ⟨l, o, n, rfl, a1, a2, a3⟩
theorem nil_alike {ds : List D} (h : AllNil ds) : PySem.W.AllAlike ds := fun d hd e he => by
  rw [h d hd, h e he]
  rfl
theorem sortsN {vs : List Value} {ds : List D} (e : PySem.W.EachIs (fun v d => ∃ as, Reads s.heap v d as) vs ds) (hn : AllNil ds) (hu : A.units + 1 < cLine) : PySem.W.SortsAt prog w A s (PySem.W.dataKind s.heap ds) vs := by
  refine ⟨fun v hv => ?_, oneType', fun E x y a b Q ha hb hq => ?_, fun h2 E Q hq => ?_⟩
  · obtain ⟨d, hd, as, r⟩ := e.left v hv
    exact ⟨_, PySem.W.dataKind_some (nil_alike hn) hd r⟩
  · obtain ⟨d, as, hd, ra, rfl⟩ := PySem.W.dataKind_inv ha
    obtain ⟨d', as', hd', rb, rfl⟩ := PySem.W.dataKind_inv hb
    have e1 := hn d hd
    have e2 := hn d' hd'
    subst e1 e2
    rw [keyLt'_oneType]
    exact oneLt_nil (nil_reads ra) (nil_reads rb) hu hq
  · refine kind_nil h2 (fun v hv => ?_) hq
    obtain ⟨d, hd, as, r⟩ := e.left v hv
    have e1 := hn d hd
    subst e1
    exact nil_reads r
variable {β : Type} {bs : List β} {R : Value → β → Prop} {enc : β → PyData}
theorem sorted_dataN {l : Addr} {vs : List Value} {Q : Value → Shared → Prop} (hl : s.heap.IsList l vs.toArray) (e : PySem.W.EachIs R vs bs) (er : PySem.W.EachIs (fun v b => ∃ as, Reads s.heap v (enc b) as) vs bs) (hal : AllNil (bs.map enc)) (hL : bs.length ≤ sizeLine)
    (hu : A.units + 3 < cLine) (h : ∀ out, out.length = bs.length → PySem.W.EachIs R out (bs.mergeSort (PySem.W.dataLe false enc)) → Q (.ref (s.heap.objs.size + 1)) { s with heap := PyProof.Rows.sortedAll s.heap vs (List.toArray out) }) :
    wpAny (model prog w) A (call (.builtin "sorted") [.ref l]) Q E s := by
  have er' : PySem.W.EachIs (fun v b => ∃ as, Reads (PySem.W.sortingHeap (PySem.W.copyHeap s.heap vs) (s.heap.objs.size + 1) vs) v (enc b) as) vs bs := er.mono fun _ _ ⟨as, r⟩ => ⟨as, PyProof.Rows.Reads.keeps (fun _ _ => PySem.W.sorting_copy_old) r⟩
  refine PySem.W.sorted_vals hl (sortsN (s := { s with heap := PySem.W.sortingHeap (PySem.W.copyHeap s.heap vs) (s.heap.objs.size + 1) vs }) (PySem.W.each_map (R := fun v d => ∃ as, Reads (PySem.W.sortingHeap (PySem.W.copyHeap s.heap vs) (s.heap.objs.size + 1) vs) v d as) enc er') hal (by show A.in1.in1.units + 1 < _; simp; omega)) (by rw [e.length]; exact hL) ?_
  refine h _ (by rw [PySem.W.sortVals_length false rfl]; exact e.length) ?_
  exact PySem.W.sortVals_each (κ := PySem.W.dataKind _ (bs.map enc)) (fun b => PySem.W.keyToks (enc b)) e (PySem.W.each_of_map enc ((PySem.W.each_mem (PySem.W.each_map (R := fun v d => ∃ as, Reads _ v d as) enc er')).mono fun _ _ ⟨⟨_, r⟩, hd⟩ => PySem.W.dataKind_some (nil_alike hal) hd r))
end
open Classical in
noncomputable def sortedT : List D → Option Rs
  | [.list ds] => if sortOk ds ∨ AllNil ds then some (.own (sortD ds)) else none
  | _ => none
open Classical in
@[simp↓] theorem g_sortT {xs : List D} {k : Rs → Prop} : gets (sortedT [.list xs]) k = ((sortOk xs ∨ AllNil xs) ∧ k (.own (sortD xs))) := by unfold sortedT; exact g_ite
open Classical in
theorem cd_sortT {X : Cx} {k : Nat} (hx : XO X k) : CallD X (.builtin "sorted") sortedT := by
  intro pins s σ H xs us Q I rv ⟨F, ds, r, ⟨hz0, hF⟩, hd, hg, q⟩
  unfold sortedT at hg
  split at hg
  · obtain ⟨c, rfl⟩ := some_ite hg
    rename_i ds
    rcases c with c | c
    · exact cd_sorted hx pins s σ H xs us Q I rv ⟨F, _, _, ⟨hz0, hF⟩, hd, (by unfold sortedD; exact if_pos c), q⟩
    obtain ⟨v, rfl, h⟩ := hd.one
    obtain ⟨a, ws, rfl, ha, ra⟩ := h.list hF
    obtain ⟨its, rvs, hl, hz⟩ := I.list (.inl (.inl ha))
    rw [Vals.ref1 rv]
    have e := each_zip (K := X.K) (F := F) (R := fun v b => DR X.K F b.1 b.2 ∧ RelV b.2 v) (fun v d w h1 h2 => ⟨h1, h2⟩) ra rvs
    have er := each_zip (K := X.K) (F := F) (R := fun v b => ∃ as, Reads s.heap v (Prod.fst b) as) (fun v d w h1 h2 => by
      obtain ⟨as, r, _⟩ := DR.reads I hF d w v h1 h2
      exact ⟨as, r⟩) ra rvs
    have ef := zip_fst ra
    have hlen : (ds.zip ws).length = ds.length := by rw [← List.length_map (f := Prod.fst), ef]
    have hun := hx.room.un
    refine sorted_dataN (enc := Prod.fst) hl.isList e er (by rw [ef]; exact c) (by rw [hlen, ← ra.len]; exact hz) (by omega) fun out ho eo => ?_
    obtain ⟨ep, he'⟩ := PyProof.Rows.sortedAll_at s.heap its out.toArray
    obtain ⟨k1, k2⟩ := each_back eo
    have em : ((ds.zip ws).mergeSort (PySem.W.dataLe false Prod.fst)).map Prod.fst = sortD ds := by
      unfold sortD
      rw [List.map_mergeSort (r := PySem.W.dataLe false Prod.fst) (s := leD0) (f := Prod.fst) (l := ds.zip ws) (fun a _ b _ => rfl), ef]
    rw [em] at k1
    have hl2 : (((ds.zip ws).mergeSort (PySem.W.dataLe false Prod.fst)).map Prod.snd).length ≤ sizeLine := by
      rw [List.length_map, List.length_mergeSort, hlen, ← ra.len]; exact hz
    exact ⟨.ref _, upd H (s.heap.objs.size + 1) (.lst (((ds.zip ws).mergeSort (PySem.W.dataLe false Prod.fst)).map Prod.snd)), I.laid (t' := s.toks) (fun _ _ => PyProof.Rows.sortedAll_old) (Nat.le_succ _) ⟨hl2, out, ep, k2, he'⟩, rfl, q _ _ k1 hl2 (I.hok.fresh (Nat.le_succ _))⟩
  · cases hg
section
variable {S : Type} [StK S] {X : Cx} {a b c : Expr} {pos : Pos}
def tIfT (tc ta tb : TT) : TT := fun σ H Q => tc σ H fun v H1 => if v = true then ta σ H1 Q else tb σ H1 Q
theorem pt_ife {tc ta tb : TT} (hc : PT X c tc) (ha : PT X a ta) (hb : PT X b tb) : PT X (.IfExp c a b pos) (tIfT tc ta tb) := ⟨fun pins s σ H Q I h =>
  isTrue_IfExp (thn (hc.run pins s σ H _ I h) fun v s1 ⟨H1, J, q⟩ => by
    cases v with
    | true => exact ha.run pins s1 σ H1 Q J q
    | false => exact hb.run pins s1 σ H1 Q J q)⟩
def dIfT (tc ta tb : BW S) : BW S := fun ρ P => tc ρ fun v ρ1 => if v = true then ta ρ1 P else tb ρ1 P
theorem ct_ife {tc ta tb : BW S} (hc : CT (S := S) X c tc) (ha : CT (S := S) X a ta) (hb : CT (S := S) X b tb) : CT (S := S) X (.IfExp c a b pos) (dIfT tc ta tb) := pt_mono (pt_ife hc ha hb) fun σ H Q ⟨B, pa, τ, F, ρ, θ, P, R, hl, h, q⟩ =>
  ⟨B, pa, τ, F, ρ, θ, _, R, hl, h, fun v ρ1 H1 F1 h1 l1 R1 => by
    cases v with
    | true => exact ⟨B, pa, τ, F1, ρ1, θ, P, R1, l1, h1, q⟩
    | false => exact ⟨B, pa, τ, F1, ρ1, θ, P, R1, l1, h1, q⟩⟩
@[simp↓] theorem z_dIfT {s0 : Sl} {l0 : List Sl} {pn : S} {tc ta tb : BW S} {P : Bool → En S → Prop} : dIfT tc ta tb ⟨s0 :: l0, pn⟩ P = tc ⟨s0 :: l0, pn⟩ fun v ρ1 => if v = true then ta ρ1 P else tb ρ1 P := rfl
end
end Dk
namespace Dk
open PySem PySem.Spec PyProof.Rows L2
section
variable {X : Cx}
def rCountD (K : Fg) : V → List V → Hp → VK → Prop := fun x xs H Q => ∃ (a : Addr) (y : V) (d : PyData) (ds : List PyData), x = V.ref a ∧ xs = [y] ∧ Dp K H (V.ref a) (.list ds) ∧ Dp K H y d ∧
  SeqAt.shaped (.list ds) = true ∧ SeqAt.shaped d = true ∧ Q (.int (ds.countP fun z => PyData.eqv z d : Nat)) H
theorem mt_countD (hu : X.A.units + 65 < cLine) : MtR X "list.count" (rCountD X.K) := by
  intro pins s σ H x xs v us Q I rx rxs h
  obtain ⟨a, y, d, ds, rfl, rfl, hl, hy, sl, sd, q⟩ := h
  cases rx
  cases rxs with
  | cons ry rt =>
    rename_i uy ut
    cases rt
    obtain ⟨bs, r1⟩ := Dp.reads I d y uy hy ry
    have hxs : PyData.canLayAll0 ds = true := SeqAt.canLay_of_shaped sl
    have hroom : X.A.units + 1 + min (PyData.depthAll ds) d.depth < cLine := room_in_shaped sd hu
    cases hl with
    | lst hs ha =>
      obtain ⟨its, rv, ⟨⟨cls, dd, data, sls⟩, n, ho, hc, hdn, hdt⟩, hlen⟩ := I.list hs
      simp only at hc hdt
      subst hc hdt
      obtain ⟨as, h4⟩ := Dp.readsAll I ds _ its ha rv
      have hmap : its.map (SeqAt.readOf s.heap) = ds := SeqAt.readsAll_map ds its as hxs h4
      refine call_meets PySem.F.slot_list_count ⟨_, ho, rfl⟩ PySem.F.entry_list_count (PySem.F.args_list_count_2 _ _)
        (SeqAt.list_countAt a its.toArray n dd sls uy (fun u => PyData.eqv (SeqAt.readOf s.heap u) d)) ⟨ho, SeqAt.items_eqAt (vs := its.toArray) (show ReadsAll s.heap its.toArray.toList ds as from h4) r1 hxs (SeqAt.canLay_of_shaped sd) hroom, ?_⟩
      refine ⟨.int (ds.countP fun z => PyData.eqv z d : Nat), H, I.tok _, ⟨s.toks, ?_⟩, q⟩
      have e : its.toArray.toList.countP (fun u => PyData.eqv (SeqAt.readOf s.heap u) d) = ds.countP fun z => PyData.eqv z d := by
        rw [← hmap, List.countP_map]
        rfl
      show Value.int ((its.toArray.toList.countP (fun u => PyData.eqv (SeqAt.readOf s.heap u) d) : Nat) : Int) s.toks = _
      rw [e]
end
section
variable {S : Type} [StK S] {X : Cx} {k : Nat} {a b : Expr} {t u : OW S} {p1 pos : Pos}
def dRem (i : Nat) (t : OW S) : DW S := fun ρ P => (own? ρ.sl i).isSome = true ∧ t ρ fun k ρ1 => gets (own? ρ1.sl i) fun xs => gets (k.rd ρ1) fun d => (SeqAt.shaped (.list xs) && SeqAt.shaped d) = true ∧ gets (xs.findIdx? fun z => PyData.eqv z d) fun j => P (.val .none) { ρ1 with sl := ρ1.sl.set i (.own (xs.eraseIdx j)) }
@[simp↓] theorem z_dRem {i : Nat} {s0 : Sl} {l0 : List Sl} {pn : S} {P : Rs → En S → Prop} : dRem i t ⟨s0 :: l0, pn⟩ P = ((own? (s0 :: l0) i).isSome = true ∧ t ⟨s0 :: l0, pn⟩ fun k ρ1 => gets (own? ρ1.sl i) fun xs => gets (k.rd ρ1) fun d => (SeqAt.shaped (.list xs) && SeqAt.shaped d) = true ∧ gets (xs.findIdx? fun z => PyData.eqv z d) fun j => P (.val .none) { ρ1 with sl := ρ1.sl.set i (.own (xs.eraseIdx j)) }) := rfl
def cntOfD : D → D → Option Rs
  | .list ds, d => if (SeqAt.shaped (.list ds) && SeqAt.shaped d) = true then some (ri (ds.countP fun z => PyData.eqv z d : Nat)) else none
  | _, _ => none
def dCnt (t u : OW S) : DW S := fun ρ P => t ρ fun k1 ρ1 => isLst (k1.rd ρ1) = true ∧ u ρ1 fun k2 ρ2 => gets (k1.rd ρ2) fun d1 => gets (k2.rd ρ2) fun d2 => gets (cntOfD d1 d2) fun r => P r ρ2
theorem ce_count {apos : Pos} (hx : XO X k) (ha : CO (S := S) X a t) (hb : CO (S := S) X b u)
    (hbase : attributeBase a "count" X.env (eval a X.env) = eval a X.env := by rfl)
    (hfew : ((backTo pos (starEach [b] X.env)).all (fun x => !x.1) && (backToKw pos (keywordEach [] X.env)).all (fun x => x.1.isSome) && decide ([b].length + ([] : List Keyword).length + (if ([] : List Keyword).isEmpty then 0 else 1) < 30)) = true := by rfl)
    (hline : (apos.endLine == pos.line) = true := by rfl) (hs : starEach [b] X.env = (false, eval b X.env) :: starEach [] X.env := by rfl) (hplain : (backTo pos (starEach [] X.env)).any (·.1) = false := by rfl) :
    CE (S := S) X (.Call (.Attribute a "count" apos) [b] [] pos) (dCnt t u) :=
  pe_mono (pe_bm PySem.F.plainAttrs_list PySem.F.slot_list_count PySem.F.type_list_count (mt_countD (X := X) (by have := hx.room.un; omega)) ha (pa_cons hb pa_nil hs) hbase hfew hline hs hplain) fun σ H Q h => by
    obtain ⟨B, pa, τ, F, ρ, θ, P, R, hl, h, q⟩ := h
    refine ⟨B, pa, τ, F, ρ, θ, _, R, hl, h, fun k1 ρ1 v1 H1 F1 h1 hl1 R1 s1 => ?_⟩
    obtain ⟨hL, h1⟩ := h1
    have hτ : τ.length = θ.length := by have := R1.pop.len; simp at this; omega
    obtain ⟨ds0, eL⟩ := isLst_some hL
    have rd0 := read_at (τ := τ ++ [some v1]) (θ := θ ++ [k1.sl]) (by rw [← List.append_assoc, ← List.append_assoc]; exact R1) hl1 τ.length (app_last _ _) (getN hτ.symm) s1 eL
    obtain ⟨a0, vs0, rfl, hA, _⟩ := rd0.list R1.fh
    refine ⟨.inl ⟨rfl, vs0, .inl (.inl hA)⟩, ?_⟩
    refine ⟨B, pa, τ ++ [some (.ref a0)], F1, ρ1, θ ++ [k1.sl], _, by rw [← List.append_assoc, ← List.append_assoc]; exact R1, hl1, h1, fun k2 ρ2 v2 H2 F2 h2 hl2 R2 s2 => ?_⟩
    obtain ⟨d1, e1, h2⟩ := gets_elim h2
    obtain ⟨d2, e2, h2⟩ := gets_elim h2
    obtain ⟨r, e3, h2⟩ := gets_elim h2
    have R2' : Rel X.K B pa (σ ++ (τ ++ [some (.ref a0)] ++ [some v2])) H2 F2 (ρ2.sl ++ (θ ++ [k1.sl] ++ [k2.sl])) ρ2.pn := by
      simpa only [List.append_assoc] using R2
    have rd1 := read_at (k := k1) R2' hl2 τ.length (by simp) (by rw [hτ]; simp) s1 e1
    have rd2 := read_at (k := k2) R2' hl2 (τ.length + 1) (by simp) (by rw [hτ]; simp) s2 e2
    cases d1 with
    | list ds =>
      obtain ⟨hc, er⟩ : (SeqAt.shaped (.list ds) && SeqAt.shaped d2) = true ∧ ri (ds.countP fun z => PyData.eqv z d2 : Nat) = r := by
        have e4 : (if (SeqAt.shaped (.list ds) && SeqAt.shaped d2) = true then some (ri (ds.countP fun z => PyData.eqv z d2 : Nat)) else none) = some r := e3
        exact some_ite e4
      subst er
      rw [Bool.and_eq_true] at hc
      refine ⟨a0, v2, d2, ds, rfl, rfl, rd1.dp R2.fh hc.1, rd2.dp R2.fh hc.2, hc.1, hc.2, ?_⟩
      have R3 : Rel X.K B pa (σ ++ τ) H2 F2 (ρ2.sl ++ θ) ρ2.pn := by
        have := R2.pop
        rw [← List.append_assoc, ← List.append_assoc] at this
        exact this.pop
      exact q _ _ _ _ _ h2 hl2 (R3.pushVal (d := .int (ds.countP fun z => PyData.eqv z d2 : Nat)) (DR.int_.mpr rfl)) (fun i e => by cases e)
    | _ => cases e3
@[simp↓] theorem z_dCnt {s0 : Sl} {l0 : List Sl} {pn : S} {P : Rs → En S → Prop} : dCnt t u ⟨s0 :: l0, pn⟩ P = t ⟨s0 :: l0, pn⟩ fun k1 ρ1 => isLst (k1.rd ρ1) = true ∧ u ρ1 fun k2 ρ2 => gets (k1.rd ρ2) fun d1 => gets (k2.rd ρ2) fun d2 => gets (cntOfD d1 d2) fun r => P r ρ2 := rfl
end
end Dk
namespace Dk
open PySem PySem.Spec PyProof.Rows L2 PySem.Calls
section
variable {prog : Program} {w : World} {A : Around} {E : Value → Shared → Prop} {s : Shared}
theorem noI_tuple_add : typeLookup (.type "tuple") (dunderI "add") = pure none := by rw [typeLookup_type, builtinLookup_eq_fast]; kernel_rfl
theorem icat_tup {t b : Addr} {vs ws : List Value} {Q : Value → Shared → Prop} (ht : IsTup s.heap t vs.toArray) (hb : IsTup s.heap b ws.toArray)
    (h0 : vs = [] → Q (.ref b) s) (h1 : vs ≠ [] → ws = [] → Q (.ref t) s) (h2 : vs ≠ [] → ws ≠ [] → Q (.ref s.heap.objs.size) { s with heap := s.heap.push { cls := .type "tuple", data := .seq (vs ++ ws).toArray } })
    (hsz : vs.length + ws.length ≤ sizeLine) : wpAny (model prog w) A (inplaceOp .Add (.ref t) (.ref b)) Q E s := by
  obtain ⟨⟨cls, dd, data, sl⟩, ho, hc, n, hd⟩ := id ht
  obtain ⟨⟨cls2, dd2, data2, sl2⟩, ho2, hc2, n2, hd2⟩ := id hb
  simp only at hc hd hc2 hd2
  subst hc hd hc2 hd2
  have e : vs.toArray ++ ws.toArray = (vs ++ ws).toArray := by simp
  have road : ∀ {S : PySem.Spec}, Meets (Builtin.«tuple.__add__» ⟨[.ref t, .ref b], []⟩) S → S A (wants Q E) s → wpAny (model prog w) A (inplaceOp .Add (.ref t) (.ref b)) Q E s := fun g h =>
    wpAny_inplaceOp_concat (T := "tuple") ⟨_, ho, rfl⟩ ⟨_, ho2, rfl⟩ noI_tuple_add noFill_tuple_add seq_tuple_add (call_meets PySem.F.slot_tuple_add ⟨_, ho, rfl⟩ PySem.F.entry_tuple_add (PySem.F.args_tuple_add_2 _ _) g h)
  by_cases hv : vs = []
  · subst hv
    exact road (tuple_addW0 t b ([] : List Value).toArray ws.toArray n n2 dd dd2 sl sl2 (by simp)) ⟨ho, ho2, h0 rfl⟩
  · by_cases hw : ws = []
    · exact road (tuple_addW1 t b vs.toArray ws.toArray n n2 dd dd2 sl sl2 (by simpa using hv) (by simp [hw])) ⟨ho, ho2, h1 hv hw⟩
    · refine road (tuple_addW2 t b vs.toArray ws.toArray n n2 dd dd2 sl sl2 (by simpa using hv) (by simpa using hw) (by rw [List.size_toArray, List.size_toArray]; exact hsz)) ⟨ho, ho2, ?_⟩
      rw [e]
      exact h2 hv hw
end
section
variable {X : Cx}
theorem ip_catT : PIp X .Add (rCatC X.K) := by
  intro pins s σ H x y v u Q I rx ry h
  obtain ⟨a, b, xs, ys, rfl, rfl, ha, hb, hz, q0, q1, q2⟩ := h
  cases rx
  cases ry
  obtain ⟨its, r1, p1, _⟩ := I.tuple ha
  obtain ⟨its2, r2, p2, _⟩ := I.tuple hb
  refine icat_tup p1 p2 (fun z => ⟨.ref b, H, I, rfl, q0 (r1.nil_iff.mp z)⟩) (fun z z2 => ⟨.ref a, H, I, rfl, q1 (fun e => z (r1.nil_iff.mpr e)) (r2.nil_iff.mp z2)⟩) (fun z z2 => ?_) (by rw [← r1.length, ← r2.length]; exact hz)
  exact laidC (a := (its ++ its2).toArray) I (r1.append r2) (by rw [List.length_append]; exact hz) q2
variable {S : Type} [StK S] {e : Expr} {te : DW S} {k : Nat} {pos : Pos}
def tup? : D → Option (List D)
  | .tuple ds => some ds
  | _ => none
theorem tup?_some {d : D} {ds : List D} (h : tup? d = some ds) : d = .tuple ds := by
  cases d with
  | tuple es => cases h; rfl
  | _ => cases h
def slT (ρ : En S) (i : Nat) : Option (List D) := ((ρ.sl[i]?).bind Sl.rd).bind tup?
def dAugT (i : Nat) (t : DW S) : DS S := fun E ρ => gets (slT ρ i) fun _ => t ρ fun r ρ1 => gets (slT ρ1 i) fun ds => gets (tup? r.d) fun es => ds.length + es.length ≤ sizeLine ∧ E.nx { ρ1 with sl := ρ1.sl.set i (.val (.tuple (ds ++ es))) }
theorem slT_val {ρ : En S} {i : Nat} {ds : List D} (h : slT ρ i = some ds) : ρ.sl[i]? = some (.val (.tuple ds)) := by
  obtain ⟨d, h1, h2⟩ := Option.bind_eq_some_iff.mp h
  obtain ⟨s0, h3, h4⟩ := Option.bind_eq_some_iff.mp h1
  have := tup?_some h2
  subst this
  cases s0 with
  | val d => cases h4; exact h3
  | own _ => cases h4
  | bor _ => cases h4
  | un => cases h4
  | pen => cases h4
  | scr _ => cases h4
  | ref _ => cases h4
theorem cs_augT (i : Nat) {x : Str} {p' : Pos} (hx0 : XO X k) (he : CE (S := S) X e te) (hi : X.N[i]? = some x := by rfl) (hx : L2.Loc X.env.scope x := by first | exact .inl rfl | exact .inr rfl)
    (hf : X.fn x = true ∨ X.env.scope.names.lookup x = some .local := by first | exact .inl rfl | exact .inr rfl) : CS (S := S) X (.AugAssign (.Name x p') .Add e pos) (dAugT i te) := by
  refine ⟨fun pins s σ H Z I h => ?_⟩
  refine (ps_aug hx0.nd hi hx he ip_catT hf).run pins s σ H Z I ?_
  have hil : i < σ.length := by rw [I.len]; exact (List.getElem?_eq_some_iff.mp hi).1
  obtain ⟨B, pa, τ, F, ρ, θ, E, R, hl, h, q⟩ := h
  obtain ⟨ds0, e1, h⟩ := gets_elim h
  have e5 := slT_val e1
  obtain ⟨o, z1, z2⟩ := R.sl i _ (by rw [List.getElem?_append_left (by omega)]; exact e5)
  have z3 := left_get hil z1
  obtain ⟨v0, rfl, hd0⟩ := z2
  refine ⟨v0, z3, ofE ⟨B, pa, τ, F, ρ, θ, _, R, hl, h, fun r ρ1 v H1 F1 h1 l1 R1 => ?_⟩⟩
  obtain ⟨ds, f1, h1⟩ := gets_elim h1
  obtain ⟨es, f2, h1⟩ := gets_elim h1
  obtain ⟨hz, h1⟩ := h1
  have f2 := tup?_some f2
  obtain ⟨F2, _, R2⟩ := freezeLast R1
  obtain ⟨⟨v', e', hd⟩, _⟩ := Rel.last (s := .val r.d) R2
  cases e'
  rw [f2] at hd
  have g5 := slT_val f1
  have hl5 := (List.getElem?_eq_some_iff.mp g5).1
  obtain ⟨o2, y1, y2⟩ := R2.sl i _ (by rw [List.getElem?_append_left (by rw [List.length_append]; omega), List.getElem?_append_left hl5]; exact g5)
  obtain ⟨v1, rfl, hd1⟩ := y2
  have y3 : σ[i]? = some (some v1) := left_get hil (by rw [List.append_assoc] at y1; exact y1)
  rw [z3] at y3
  have y4 := Option.some.inj (Option.some.inj y3)
  subst y4
  obtain ⟨a, vs, rfl, ha, ra⟩ := DR.tuple_s hd1
  obtain ⟨b, us, rfl, hb, rb⟩ := DR.tuple_s hd
  have hF := R2.fh
  have g := R2.pop.gives (r := .val (.tuple (ds ++ es))) (Q := fun z H2 => Z.nx (σ.set i (some z)) H2) fun v H' F' R' => by
    have R3 := R'.move (i := i) (by simp; omega)
    rw [List.set_append_left _ _ hil, List.set_append_left _ _ (by omega)] at R3
    exact q.nx _ { ρ1 with sl := ρ1.sl.set i (.val (.tuple (ds ++ es))) } H' F' h1 (by simp) (by simpa using l1) R3
  refine ⟨a, b, vs, us, rfl, rfl, hF.t ha, hF.t hb, by rw [ra.len, rb.len]; exact hz, fun e => ?_, fun e1 e => ?_, g.2.1 _ _ rfl (ra.append rb) (by rw [List.length_append, ra.len, rb.len]; exact hz)⟩
  · subst e
    have : ds = [] := List.length_eq_zero_iff.mp (by have := ra.len; simpa using this.symm)
    subst this
    exact g.1 _ hd
  · subst e
    have : es = [] := List.length_eq_zero_iff.mp (by have := rb.len; simpa using this.symm)
    subst this
    rw [List.append_nil] at g
    exact g.1 _ hd1
end
end Dk
namespace Dk
open PySem PySem.Spec PyProof.Rows L2
theorem flat_ints {ns : List Int} : (ns.map PyData.int).all flatD = true := by
  rw [List.all_map]
  exact List.all_eq_true.mpr fun _ _ => rfl
theorem any_ints {i : Int} : ∀ {ns : List Int}, anyEq (.int i) (ns.map .int) = decide (i ∈ ns)
  | [] => rfl
  | n :: ns => by
    have ih := any_ints (i := i) (ns := ns)
    unfold anyEq at ih ⊢
    rw [List.map_cons, List.any_cons, ih, eqv_int]
    by_cases h : n = i
    · subst h; simp
    · rw [beq_eq_false_iff_ne.mpr h, Bool.false_or, Bool.eq_iff_iff]
      simp [Ne.symm h]
@[simp↓] theorem g_inI {i : Int} {ns : List Int} {k : Rs → Prop} : gets (inD false (.int i) (.tuple (ns.map .int))) k = k (.val (.bool (decide (i ∈ ns)))) := by
  unfold inD
  show gets (if flatD (.int i) = true ∧ (ns.map PyData.int).all flatD = true then some (bl (anyEq (.int i) (ns.map .int))) else none) k = _
  rw [if_pos ⟨rfl, flat_ints⟩, any_ints]
  rfl
@[simp↓] theorem g_notinI {i : Int} {ns : List Int} {k : Rs → Prop} : gets (inD true (.int i) (.tuple (ns.map .int))) k = k (.val (.bool (!decide (i ∈ ns)))) := by
  unfold inD
  show gets (if flatD (.int i) = true ∧ (ns.map PyData.int).all flatD = true then some (bl (!anyEq (.int i) (ns.map .int))) else none) k = _
  rw [if_pos ⟨rfl, flat_ints⟩, any_ints]
  rfl
theorem eqOk_str {x y : Str} : eqOk (.str x) (.str y) = true := rfl
theorem eqv_strQ {x y : Str} : PyData.eqv (.str x) (.str y) = decide (x = y) := by
  rw [Bool.eq_iff_iff]
  simp [PyData.eqv]
theorem map_atQ {α : Type} {g : α → D} {xs : List α} {n : Nat} {x : α} (h : xs[n]? = some x) (K : D → Prop) : gets (atI (xs.map g) (n : Int)) K = K (g x) := by
  rw [Dk.atI_nat, List.getElem?_map, h]
  rfl
theorem map_atI {α : Type} {g : α → D} {xs : List α} {i : Int} {x : α} (h0 : 0 ≤ i) (h : xs[i.toNat]? = some x) (K : D → Prop) : gets (atI (xs.map g) i) K = K (g x) := by
  rw [Dk.atI_of h0, List.getElem?_map, h]
  rfl
theorem getD_get {α : Type} {xs : List α} {n : Nat} {d : α} (h : n < xs.length) : xs[n]? = some (xs.getD n d) := by
  rw [List.getD_eq_getElem?_getD, List.getElem?_eq_getElem h]
  rfl
theorem tabs_bd {q : Qy} {db : Dbs} {sc : List Int} {most : Nat} (Z : QdOk sc most q db) (o : Int) : (tabQ q db o).length ≤ 10 := Nat.le_trans (tab_le Z o) Z.m
theorem cho_bd {q : Qy} {db : Dbs} {sc : List Int} {most : Nat} (Z : QdOk sc most q db) {so : List Int} (h : so.length ≤ 3) : (choL q db so).length ≤ 1000 := Nat.le_trans (choL_len (tabs_bd Z) so) (Nat.le_trans (Nat.pow_le_pow_right (by decide) h) (by decide))
theorem all_bd {q : Qy} {db : Dbs} {sc : List Int} {most : Nat} (Z : QdOk sc most q db) {so : List Int} (h : so.length ≤ 3) : (allC q db so).length ≤ 1000 := Nat.le_trans (allC_len (tabs_bd Z) so) (Nat.le_trans (Nat.pow_le_pow_right (by decide) h) (by decide))
theorem SoOk.take {q : Qy} {so : List Int} (h : SoOk q so) (n : Nat) : SoOk q (so.take n) := ⟨Nat.le_trans (by rw [List.length_take]; exact Nat.min_le_right _ _) h.1, fun o ho => h.2 o (List.mem_of_mem_take ho)⟩
theorem rngI_get {n i : Nat} (h : i < n) : (rngI n)[i]? = some (i : Int) := by
  unfold rngI
  rw [List.getElem?_map, List.getElem?_range h]
  rfl
theorem rngI_len {n : Nat} : (rngI n).length = n := by simp [rngI]
theorem occs_so {q : Qy} {sc : List Int} (h : QyOk sc 3 q) : SoOk q (occsQ q) := ⟨by unfold occsQ; rw [rngI_len]; exact h.o3, fun o ho => rngI_mem ho⟩
theorem range_rng {n : Nat} : rangeD 0 n = (rngI n).map .int := by
  unfold rangeD rngI
  rw [List.map_map]
  exact List.map_congr_left fun i _ => by simp
section
variable {S : Type} [StK S] {E : DE S} {s0 : Sl} {l0 : List Sl} {pn : S} {te : DW S} {i : Nat} {ds : List D}
@[simp↓] theorem z_dAugT : dAugT i te E ⟨s0 :: l0, pn⟩ = gets (slT ⟨s0 :: l0, pn⟩ i) fun _ => te ⟨s0 :: l0, pn⟩ fun r ρ1 => gets (slT ρ1 i) fun ds => gets (tup? r.d) fun es => ds.length + es.length ≤ sizeLine ∧ E.nx { ρ1 with sl := ρ1.sl.set i (.val (.tuple (ds ++ es))) } := rfl
@[simp↓] theorem g_slTQ {k : List D → Prop} : gets (slT (⟨s0 :: l0, pn⟩ : En S) i) k = gets (rdS (s0 :: l0) i) fun d => gets (tup? d) k := by
  show gets ((((s0 :: l0)[i]?).bind Sl.rd).bind tup?) k = _
  rw [rdS_eq]
  cases rdS (s0 :: l0) i <;> rfl
@[simp↓] theorem g_tup? {k : List D → Prop} : gets (tup? (.tuple ds)) k = k ds := rfl
end
theorem alike_ints : ∀ {xs ys : List Int}, xs.length = ys.length → PySem.W.alikeAll (xs.map PyData.int) (ys.map PyData.int) = true
  | [], [], _ => rfl
  | [], _ :: _, h => by simp at h
  | _ :: _, [], h => by simp at h
  | x :: xs, y :: ys, h => by
    rw [List.map_cons, List.map_cons, PySem.W.alikeAll, alike_ints (by simpa using h)]
    rfl
theorem sort_tups {L : List (List Int)} {n : Nat} (h : ∀ r ∈ L, r.length = n) : sortOk (L.map tupI) ∨ AllNil (L.map tupI) := by
  by_cases hn : n = 0
  · refine .inr fun d hd => ?_
    obtain ⟨r, hr, rfl⟩ := List.mem_map.mp hd
    have e : r = [] := List.eq_nil_of_length_eq_zero (by rw [h r hr, hn])
    subst e
    rfl
  · refine .inl ⟨fun d hd e he => ?_, .inl fun d hd => ?_, fun d hd => ?_⟩
    · obtain ⟨a, ha, rfl⟩ := List.mem_map.mp hd
      obtain ⟨b, hb, rfl⟩ := List.mem_map.mp he
      unfold tupI
      rw [PySem.W.alike]
      exact alike_ints (by rw [h a ha, h b hb])
    · obtain ⟨a, ha, rfl⟩ := List.mem_map.mp hd
      match a, h a ha with
      | [], e => exact absurd e.symm hn
      | x :: r, _ => exact ⟨_, _, rfl⟩
    · obtain ⟨a, ha, rfl⟩ := List.mem_map.mp hd
      have := depth_tupI (ns := a)
      omega
theorem count_ints {v : Int} : ∀ {ns : List Int}, (ns.map PyData.int).countP (fun z => PyData.eqv z (.int v)) = ns.count v
  | [] => rfl
  | n :: ns => by
    rw [List.map_cons, List.countP_cons, count_ints, List.count_cons, eqv_int]
@[simp↓] theorem g_cntI {v : Int} {ns : List Int} {k : Rs → Prop} : gets (cntOfD (.list (ns.map .int)) (.int v)) k = k (.val (.int (ns.count v : Nat))) := by
  show gets (if (SeqAt.shaped (.list (ns.map .int)) && SeqAt.shaped (.int v)) = true then some (ri ((ns.map PyData.int).countP fun z => PyData.eqv z (.int v) : Nat)) else none) k = _
  rw [shaped_ints, show SeqAt.shaped (.int v) = true from rfl, count_ints]
  rfl
theorem row_le3 {sc : List Int} {most : Nat} {q : Qy} {db : Dbs} {so pl : List Int} (Z : QdOk sc most q db) (S : SoOk q so) (P : PlcOk q db so pl) : ∀ r ∈ rowsQ q db so pl, r.length ≤ 3 := fun r hr => by
  obtain ⟨i, hi⟩ := List.mem_iff_getElem?.mp hr
  unfold rowsQ at hi
  rw [List.getElem?_zipWith] at hi
  cases e1 : so[i]? with
  | none => rw [e1] at hi; cases hi
  | some o =>
    cases e2 : pl[i]? with
    | none => rw [e1, e2] at hi; cases hi
    | some p =>
      rw [e1, e2] at hi
      cases hi
      obtain ⟨p0, p1⟩ := P.at_ i o p e1 e2
      have hs := S.2 o (List.mem_of_getElem? e1)
      have h1 := (Z.row hs.1 hs.2 p0 p1).2
      have h2 := Z.occ hs.1 hs.2
      have h3 := (Z.s.c _ (gI_memQ h2.1 h2.2)).2
      omega
end Dk
namespace K84
open PySem PySem.Spec PyProof.Rows L2 Dk
theorem sc_q16 : FnScope N_q16 P_q16 (defScope S_q16) := ⟨rfl, rfl, rfl, by decide +kernel, rfl, by decide +kernel, by decide +kernel⟩
theorem bd_q16 {K : Fg} {mg : Str → Option Value} {f : Addr} {fd : FuncData} (D : Dfn K mg "value_in" S_q16 f fd) : Binds K fd P_q16 [] := D.F.bindsN fun _ _ _ _ _ _ us hl => match us, hl with | [_, _, _], _ => rfl
def t_q16 : DS :=
    (dRet (dBin ixD (tmpD (dBin ixD (oSlot 1) (tmpD (dTix (oSlot 0) (tmpD (dBin ixD (oSlot 2) (tmpD (dC (.int 0))))))))) (tmpD (dBin ixD (oSlot 2) (tmpD (dC (.int 1)))))))
theorem ok_q16 {P : Program} {w : World} {K : Fg} {mg : Str → Option Value} {base : Heap} {k : Nat} {f_q16 : Addr} {fd_q16 : FuncData}    {dsp : DSp}
    (B : Blt mg) (D_q16 : Dfn K mg "value_in" S_q16 f_q16 fd_q16)
    (hlaw : ∀ as pn Q, as.length = 3 → dsp as pn Q → t_q16 { nx := fun ρ => Q .none ρ.pn, rt := Q } ⟨startD 3 as, pn⟩) : FnD P w K mg base (k + 1) f_q16 fd_q16 P_q16 dsp :=
  FnD.mkD D_q16 sc_q16 (fun cdv A outer s H E O => (css_one (cs_ret (ce_sub (ce_sub (co_slot 1) (ce_tix (co_slot 0) (ce_sub (co_slot 2) ce_int))) (ce_sub (co_slot 2) ce_int))))) hlaw
theorem sc_q8 : FnScope N_q8 P_q8 (defScope S_q8) := ⟨rfl, rfl, rfl, by decide +kernel, rfl, by decide +kernel, by decide +kernel⟩
theorem bd_q8 {K : Fg} {mg : Str → Option Value} {f : Addr} {fd : FuncData} (D : Dfn K mg "bound_holds" S_q8 f fd) : Binds K fd P_q8 [] := D.F.bindsN fun _ _ _ _ _ _ us hl => match us, hl with | [_, _], _ => rfl
def t_q8 : DS :=
    (dRet (dIfE (dTst (tmpD (dBin eqD (tmpD (dBin ixD (oSlot 0) (tmpD (dC (.int 1))))) (tmpD (dC (.str ("least" : Str))))))) (dBin geD (oSlot 1) (tmpD (dBin ixD (oSlot 0) (tmpD (dC (.int 2)))))) (dBin leD (oSlot 1) (tmpD (dBin ixD (oSlot 0) (tmpD (dC (.int 2))))))))
theorem ok_q8 {P : Program} {w : World} {K : Fg} {mg : Str → Option Value} {base : Heap} {k : Nat} {f_q8 : Addr} {fd_q8 : FuncData}    {dsp : DSp}
    (B : Blt mg) (D_q8 : Dfn K mg "bound_holds" S_q8 f_q8 fd_q8)
    (hlaw : ∀ as pn Q, as.length = 2 → dsp as pn Q → t_q8 { nx := fun ρ => Q .none ρ.pn, rt := Q } ⟨startD 2 as, pn⟩) : FnD P w K mg base (k + 1) f_q8 fd_q8 P_q8 dsp :=
  FnD.mkD D_q8 sc_q8 (fun cdv A outer s H E O => (css_one (cs_ret (ce_if (ct_cmp (od_eq O) (ce_sub (co_slot 0) ce_int) ce_str) (ce_cmp od_ge (co_slot 1) (ce_sub (co_slot 0) ce_int)) (ce_cmp od_le (co_slot 1) (ce_sub (co_slot 0) ce_int)))))) hlaw
theorem sc_q20 : FnScope N_q20 P_q20 (defScope S_q20) := ⟨rfl, rfl, rfl, by decide +kernel, rfl, by decide +kernel, by decide +kernel⟩
theorem bd_q20 {K : Fg} {mg : Str → Option Value} {f : Addr} {fd : FuncData} (D : Dfn K mg "all_hold" S_q20 f fd) : Binds K fd P_q20 [] := D.F.bindsN fun _ _ _ _ _ _ us hl => match us, hl with | [_, _, _], _ => rfl
def t_q20 (s_q8 s_q16 : DSp) : DS :=
    (sCons (dFor (iSeq (tmpD (dBin ixD (oSlot 0) (tmpD (dC (.int 1)))))) (gN 3) (dIfS (dAnd (dTst (tmpD (dBin (inD false) (tmpD (dBin ixD (tmpD (dBin ixD (oSlot 3) (tmpD (dC (.int 0))))) (tmpD (dC (.int 0))))) (oSlot 1)))) (dNot (dTst (tmpD (dCall 2 s_q8 (aCons (oSlot 3) (aCons (oVal (dCall 3 s_q16 (aCons (oSlot 1) (aCons (oSlot 2) (aCons (oVal (dBin ixD (oSlot 3) (tmpD (dC (.int 0))))) aNil))))) aNil))))))) (dRet (dC (.bool false))) sNil))
    (sCons (dFor (iSeq (tmpD (dBin ixD (oSlot 0) (tmpD (dC (.int 2)))))) (gT 2 (gCons (gN 4) (gCons (gN 5) gNil))) (dIfS (dAnd (dTst (tmpD (dBin (inD false) (tmpD (dBin ixD (oSlot 4) (tmpD (dC (.int 0))))) (oSlot 1)))) (dAnd (dTst (tmpD (dBin (inD false) (tmpD (dBin ixD (oSlot 5) (tmpD (dC (.int 0))))) (oSlot 1)))) (dTst (tmpD (dBin neD (tmpD (dCall 3 s_q16 (aCons (oSlot 1) (aCons (oSlot 2) (aCons (oSlot 4) aNil))))) (tmpD (dCall 3 s_q16 (aCons (oSlot 1) (aCons (oSlot 2) (aCons (oSlot 5) aNil)))))))))) (dRet (dC (.bool false))) sNil))
    (dRet (dC (.bool true)))))
theorem ok_q20 {P : Program} {w : World} {K : Fg} {mg : Str → Option Value} {base : Heap} {k : Nat} {f_q20 : Addr} {fd_q20 : FuncData}  {f_q8 : Addr} {fd_q8 : FuncData} {f_q16 : Addr} {fd_q16 : FuncData} {s_q8 s_q16 : DSp} {dsp : DSp}
    (B : Blt mg) (D_q20 : Dfn K mg "all_hold" S_q20 f_q20 fd_q20)    (D_q8 : Dfn K mg "bound_holds" S_q8 f_q8 fd_q8) (D_q16 : Dfn K mg "value_in" S_q16 f_q16 fd_q16)  (F_q8 : FnD P w K mg base k f_q8 fd_q8 P_q8 s_q8) (F_q16 : FnD P w K mg base k f_q16 fd_q16 P_q16 s_q16)
    (hlaw : ∀ as pn Q, as.length = 3 → dsp as pn Q → t_q20 s_q8 s_q16 { nx := fun ρ => Q .none ρ.pn, rt := Q } ⟨startD 6 as, pn⟩) : FnD P w K mg base (k + 1) f_q20 fd_q20 P_q20 dsp :=
  FnD.mkD D_q20 sc_q20 (fun cdv A outer s H E O => (css_cons (cs_for O (ci_seq (ce_sub (co_slot 0) ce_int)) (cg_n 3 O.nd) (css_one (cs_if (ct_w (cw_and (ct_cmp (od_in O) (ce_sub (ce_sub (co_slot 3) ce_int) ce_int) (co_slot 1)) (cw_and1 (ct_not (ct_val (ce_call F_q8 O D_q8.m D_q8.F.kp (bd_q8 D_q8) (ca_cons (co_slot 3) (ca_cons (co_val (ce_call F_q16 O D_q16.m D_q16.F.kp (bd_q16 D_q16) (ca_cons (co_slot 1) (ca_cons (co_slot 2) (ca_cons (co_val (ce_sub (co_slot 3) ce_int)) ca_nil))))) ca_nil)))))))) (css_one (cs_ret ce_bl)) css_nil)))
    (css_cons (cs_for O (ci_seq (ce_sub (co_slot 0) ce_int)) (cg_t O (cgs_cons (cg_n 4 O.nd) (cgs_cons (cg_n 5 O.nd) cgs_nil))) (css_one (cs_if (ct_w (cw_and (ct_cmp (od_in O) (ce_sub (co_slot 4) ce_int) (co_slot 1)) (cw_and (ct_cmp (od_in O) (ce_sub (co_slot 5) ce_int) (co_slot 1)) (cw_and1 (ct_cmp (od_ne O) (ce_call F_q16 O D_q16.m D_q16.F.kp (bd_q16 D_q16) (ca_cons (co_slot 1) (ca_cons (co_slot 2) (ca_cons (co_slot 4) ca_nil)))) (ce_call F_q16 O D_q16.m D_q16.F.kp (bd_q16 D_q16) (ca_cons (co_slot 1) (ca_cons (co_slot 2) (ca_cons (co_slot 5) ca_nil))))))))) (css_one (cs_ret ce_bl)) css_nil)))
    (css_one (cs_ret ce_bl))))) hlaw
theorem sc_q21 : FnScope N_q21 P_q21 (defScope S_q21) := ⟨rfl, rfl, rfl, by decide +kernel, rfl, by decide +kernel, by decide +kernel⟩
theorem bd_q21 {K : Fg} {mg : Str → Option Value} {f : Addr} {fd : FuncData} (D : Dfn K mg "rows_at" S_q21 f fd) : Binds K fd P_q21 [] := D.F.bindsN fun _ _ _ _ _ _ us hl => match us, hl with | [_, _, _, _], _ => rfl
def t_q21 : DS :=
    (dRet (dLc (iZp true (aCons (oSlot 2) (aCons (oSlot 3) aNil))) (gT 2 (gCons (gN 4) (gCons (gN 5) gNil))) dYes (oVal (dBin ixD (tmpD (dBin ixD (oSlot 1) (tmpD (dBin ixD (tmpD (dBin ixD (oSlot 0) (tmpD (dC (.int 0))))) (oSlot 4))))) (oSlot 5))) [4, 5]))
theorem ok_q21 {P : Program} {w : World} {K : Fg} {mg : Str → Option Value} {base : Heap} {k : Nat} {f_q21 : Addr} {fd_q21 : FuncData}    {dsp : DSp}
    (B : Blt mg) (D_q21 : Dfn K mg "rows_at" S_q21 f_q21 fd_q21)
    (hlaw : ∀ as pn Q, as.length = 4 → dsp as pn Q → t_q21 { nx := fun ρ => Q .none ρ.pn, rt := Q } ⟨startD 6 as, pn⟩) : FnD P w K mg base (k + 1) f_q21 fd_q21 P_q21 dsp :=
  FnD.mkD D_q21 sc_q21 (fun cdv A outer s H E O => (css_one (cs_ret (ce_lc [(("one" : Str), 4), (("place" : Str), 5)] O (ci_zipS (B.get "zip") (ca_cons (co_slot 2) (ca_cons (co_slot 3) ca_nil))) (fun _ _ _ _ _ => (cg_t O.blk (cgs_cons (cg_n 4 O.blk.nd) (cgs_cons (cg_n 5 O.blk.nd) cgs_nil)))) (fun _ _ _ _ _ => cts_nil) (fun _ _ _ _ _ => (co_val (ce_sub (ce_sub (co_slot 1) (ce_sub (ce_sub (co_slot 0) ce_int) (co_slot 4))) (co_slot 5)))))))) hlaw
theorem sc_q10 : FnScope N_q10 P_q10 (defScope S_q10) := ⟨rfl, rfl, rfl, by decide +kernel, rfl, by decide +kernel, by decide +kernel⟩
theorem bd_q10 {K : Fg} {mg : Str → Option Value} {f : Addr} {fd : FuncData} (D : Dfn K mg "choices_of" S_q10 f fd) : Binds K fd P_q10 [] := D.F.bindsN fun _ _ _ _ _ _ us hl => match us, hl with | [_, _, _], _ => rfl
def t_q10 (s_q20 s_q21 : DSp) : DS :=
    (sCons (dSet 3 (dDisp Rs.own (aCons (oVal (dDisp mkT aNil)) aNil)))
    (sCons (dFor (iEn (aCons (oFix 2) aNil)) (gT 2 (gCons (gN 4) (gCons (gN 5) gNil))) (sCons (dSet 6 (dCB lenD (aCons (tmpD (dBin ixD (oSlot 1) (tmpD (dBin ixD (tmpD (dBin ixD (oSlot 0) (tmpD (dC (.int 0))))) (oSlot 5))))) aNil)))
    (sCons (dSet 7 (dLc2 (iSeq (oSlot 3)) (gN 8) dYes (iRange1 (oSlot 6)) (gN 9) dYes (oVal (dBin addD (oSlot 8) (tmpD (dDisp mkT (aCons (oVal (dVar 9)) aNil))))) [8, 9] [9]))
    (dSet 3 (dLc (iSeq (oSlot 7)) (gN 8) (dTst (tmpD (dCall 3 s_q20 (aCons (oSlot 0) (aCons (oVal (dSl (oSlot 2) pNone (pSome (tmpD (dBin addD (oSlot 4) (tmpD (dC (.int 1)))))))) (aCons (oVal (dCall 4 s_q21 (aCons (oSlot 0) (aCons (oSlot 1) (aCons (oVal (dSl (oSlot 2) pNone (pSome (tmpD (dBin addD (oSlot 4) (tmpD (dC (.int 1)))))))) (aCons (oSlot 8) aNil)))))) aNil)))))) (oVal (dVar 8)) [8])))))
    (dRetO (dMove 3))))
theorem ok_q10 {P : Program} {w : World} {K : Fg} {mg : Str → Option Value} {base : Heap} {k : Nat} {f_q10 : Addr} {fd_q10 : FuncData}  {f_q20 : Addr} {fd_q20 : FuncData} {f_q21 : Addr} {fd_q21 : FuncData} {s_q20 s_q21 : DSp} {dsp : DSpO}
    (B : Blt mg) (D_q10 : Dfn K mg "choices_of" S_q10 f_q10 fd_q10)    (D_q20 : Dfn K mg "all_hold" S_q20 f_q20 fd_q20) (D_q21 : Dfn K mg "rows_at" S_q21 f_q21 fd_q21)  (F_q20 : FnD P w K mg base k f_q20 fd_q20 P_q20 s_q20) (F_q21 : FnD P w K mg base k f_q21 fd_q21 P_q21 s_q21)
    (hlaw : ∀ as pn Q, as.length = 3 → dsp as pn Q → t_q10 s_q20 s_q21 { nx := fun _ => False, rt := fun _ _ => False, ro := Q } ⟨startD 10 as, pn⟩) : FnO P w K mg base (k + 1) f_q10 fd_q10 P_q10 dsp :=
  FnO.mk D_q10 sc_q10 (fun cdv A outer s H E O => (css_cons (cs_set 3 O (ce_lst (ca_cons (co_val (ce_tup ca_nil)) ca_nil)))
    (css_cons (cs_for O (ci_enum (B.get "enumerate") (ca_cons (co_fix 2) ca_nil)) (cg_t O (cgs_cons (cg_n 4 O.nd) (cgs_cons (cg_n 5 O.nd) cgs_nil))) (css_cons (cs_set 6 O (ce_callB cd_len (B.get "len") b_len (ca_cons (ce_sub (co_slot 1) (ce_sub (ce_sub (co_slot 0) ce_int) (co_slot 5))) ca_nil)))
    (css_cons (cs_setLc2 7 [(("places" : Str), 8), (("place" : Str), 9)] [9] O (ci_seq (co_slot 3)) (fun _ _ _ _ _ => (cg_n 8 O.blk.nd)) (fun _ _ _ _ _ => cts_nil) (fun _ _ _ _ _ => (ci_range1 (B.get "range") (co_slot 6))) (fun _ _ _ _ _ => (cg_n 9 O.blk.nd)) (fun _ _ _ _ _ => cts_nil) (fun _ _ _ _ _ => (co_val (ce_bin od_add (co_slot 8) (ce_tup (ca_cons (co_val (ce_var 9)) ca_nil))))))
    (css_one (cs_setLc 3 [(("places" : Str), 8)] O (ci_seq (co_slot 7)) (fun _ _ _ _ _ => (cg_n 8 O.blk.nd)) (fun _ _ _ _ _ => (cts_one (ct_val (ce_call F_q20 O.blk D_q20.m D_q20.F.kp (bd_q20 D_q20) (ca_cons (co_slot 0) (ca_cons (co_val (ce_slice (co_slot 2) cp_none (cp_some (ce_bin od_add (co_slot 4) ce_int)))) (ca_cons (co_val (ce_call F_q21 O.blk D_q21.m D_q21.F.kp (bd_q21 D_q21) (ca_cons (co_slot 0) (ca_cons (co_slot 1) (ca_cons (co_val (ce_slice (co_slot 2) cp_none (cp_some (ce_bin od_add (co_slot 4) ce_int)))) (ca_cons (co_slot 8) ca_nil)))))) ca_nil))))))) (fun _ _ _ _ _ => (co_val (ce_var 8))))))))
    (css_one (cs_retO (ce_move 3)))))) hlaw
theorem sc_q23 : FnScope N_q23 P_q23 (defScope S_q23) := ⟨rfl, rfl, rfl, by decide +kernel, rfl, by decide +kernel, by decide +kernel⟩
theorem bd_q23 {K : Fg} {mg : Str → Option Value} {f : Addr} {fd : FuncData} (D : Dfn K mg "joined" S_q23 f fd) : Binds K fd P_q23 [] := D.F.bindsN fun _ _ _ _ _ _ us hl => match us, hl with | [_, _, _, _], _ => rfl
def t_q23 (s_q21 : DSp) : DS :=
    (sCons (dSet 4 (dDisp mkT aNil))
    (sCons (dFor (iSeq (tmpD (dCall 4 s_q21 (aCons (oSlot 0) (aCons (oSlot 1) (aCons (oSlot 2) (aCons (oSlot 3) aNil))))))) (gN 5) (dAugT 4 (dVar 5)))
    (dRet (dVar 4))))
theorem ok_q23 {P : Program} {w : World} {K : Fg} {mg : Str → Option Value} {base : Heap} {k : Nat} {f_q23 : Addr} {fd_q23 : FuncData}  {f_q21 : Addr} {fd_q21 : FuncData} {s_q21 : DSp} {dsp : DSp}
    (B : Blt mg) (D_q23 : Dfn K mg "joined" S_q23 f_q23 fd_q23)    (D_q21 : Dfn K mg "rows_at" S_q21 f_q21 fd_q21)  (F_q21 : FnD P w K mg base k f_q21 fd_q21 P_q21 s_q21)
    (hlaw : ∀ as pn Q, as.length = 4 → dsp as pn Q → t_q23 s_q21 { nx := fun ρ => Q .none ρ.pn, rt := Q } ⟨startD 6 as, pn⟩) : FnD P w K mg base (k + 1) f_q23 fd_q23 P_q23 dsp :=
  FnD.mkD D_q23 sc_q23 (fun cdv A outer s H E O => (css_cons (cs_set 4 O (ce_tup ca_nil))
    (css_cons (cs_for O (ci_seq (ce_call F_q21 O D_q21.m D_q21.F.kp (bd_q21 D_q21) (ca_cons (co_slot 0) (ca_cons (co_slot 1) (ca_cons (co_slot 2) (ca_cons (co_slot 3) ca_nil)))))) (cg_n 5 O.nd) (css_one (cs_augT 4 O (ce_var 5))))
    (css_one (cs_ret (ce_var 4)))))) hlaw
theorem sc_q3 : FnScope N_q3 P_q3 (defScope S_q3) := ⟨rfl, rfl, rfl, by decide +kernel, rfl, by decide +kernel, by decide +kernel⟩
theorem bd_q3 {K : Fg} {mg : Str → Option Value} {f : Addr} {fd : FuncData} (D : Dfn K mg "all_occurrences" S_q3 f fd) : Binds K fd P_q3 [] := D.F.bindsN fun _ _ _ _ _ _ us hl => match us, hl with | [_], _ => rfl
def t_q3 : DS :=
    (dRet (dRg1 false (tmpD (dCB lenD (aCons (tmpD (dBin ixD (oSlot 0) (tmpD (dC (.int 0))))) aNil)))))
theorem ok_q3 {P : Program} {w : World} {K : Fg} {mg : Str → Option Value} {base : Heap} {k : Nat} {f_q3 : Addr} {fd_q3 : FuncData}    {dsp : DSp}
    (B : Blt mg) (D_q3 : Dfn K mg "all_occurrences" S_q3 f_q3 fd_q3)
    (hlaw : ∀ as pn Q, as.length = 1 → dsp as pn Q → t_q3 { nx := fun ρ => Q .none ρ.pn, rt := Q } ⟨startD 1 as, pn⟩) : FnD P w K mg base (k + 1) f_q3 fd_q3 P_q3 dsp :=
  FnD.mkD D_q3 sc_q3 (fun cdv A outer s H E O => (css_one (cs_ret (ce_tupleRg1 O (B.get "tuple") (B.get "range") (ce_callB cd_len (B.get "len") b_len (ca_cons (ce_sub (co_slot 0) ce_int) ca_nil)))))) hlaw
theorem sc_q22 : FnScope N_q22 P_q22 (defScope S_q22) := ⟨rfl, rfl, rfl, by decide +kernel, rfl, by decide +kernel, by decide +kernel⟩
theorem bd_q22 {K : Fg} {mg : Str → Option Value} {f : Addr} {fd : FuncData} (D : Dfn K mg "answer" S_q22 f fd) : Binds K fd P_q22 [] := D.F.bindsN fun _ _ _ _ _ _ us hl => match us, hl with | [_, _], _ => rfl
def t_q22 (s_q3 : DSp) (s_q10 : DSpO) (s_q21 : DSp) (s_q16 : DSp) : DS :=
    (sCons (dSet 2 (dCall 1 s_q3 (aCons (oSlot 0) aNil)))
    (sCons (dSet 3 (dLc (iSeq (tmpD (dCallO 3 s_q10 (aCons (oSlot 0) (aCons (oSlot 1) (aCons (oSlot 2) aNil)))))) (gN 5) dYes (oVal (dCall 4 s_q21 (aCons (oSlot 0) (aCons (oSlot 1) (aCons (oSlot 2) (aCons (oSlot 5) aNil)))))) [5]))
    (sCons (dIfS (dTst (tmpD (dBin (isD false) (tmpD (dBin ixD (oSlot 0) (tmpD (dC (.int 4))))) (tmpD (dC .none))))) (dRetO (dCB sortedT (aCons (tmpD (dLc (iSeq (oSlot 3)) (gN 6) dYes (oVal (dCB tupleD (aCons (tmpD (dLc (iSeq (tmpD (dBin ixD (oSlot 0) (tmpD (dC (.int 3)))))) (gN 8) dYes (oVal (dCall 3 s_q16 (aCons (oSlot 2) (aCons (oSlot 6) (aCons (oSlot 8) aNil))))) [8])) aNil))) [6])) aNil))) sNil)
    (sCons (dSet 4 (dLc (iSeq (oSlot 3)) (gN 6) dYes (oVal (dCall 3 s_q16 (aCons (oSlot 2) (aCons (oSlot 6) (aCons (oVal (dBin ixD (oSlot 0) (tmpD (dC (.int 4))))) aNil))))) [6]))
    (dRetO (dLc (iSeq (tmpD (dUn ssetD (oSlot 4)))) (gN 7) dYes (oVal (dDisp mkT (aCons (oVal (dVar 7)) (aCons (oVal (dCnt (oSlot 4) (oSlot 7))) aNil)))) [7]))))))
theorem ok_q22 {P : Program} {w : World} {K : Fg} {mg : Str → Option Value} {base : Heap} {k : Nat} {f_q22 : Addr} {fd_q22 : FuncData}  {f_q3 : Addr} {fd_q3 : FuncData} {f_q10 : Addr} {fd_q10 : FuncData} {f_q21 : Addr} {fd_q21 : FuncData} {f_q16 : Addr} {fd_q16 : FuncData} {s_q3 : DSp} {s_q10 : DSpO} {s_q21 : DSp} {s_q16 : DSp}  {dsp : DSpO}
    (B : Blt mg) (D_q22 : Dfn K mg "answer" S_q22 f_q22 fd_q22)    (D_q3 : Dfn K mg "all_occurrences" S_q3 f_q3 fd_q3) (D_q10 : Dfn K mg "choices_of" S_q10 f_q10 fd_q10) (D_q21 : Dfn K mg "rows_at" S_q21 f_q21 fd_q21) (D_q16 : Dfn K mg "value_in" S_q16 f_q16 fd_q16)  (F_q3 : FnD P w K mg base k f_q3 fd_q3 P_q3 s_q3) (F_q10 : FnO P w K mg base k f_q10 fd_q10 P_q10 s_q10) (F_q21 : FnD P w K mg base k f_q21 fd_q21 P_q21 s_q21) (F_q16 : FnD P w K mg base k f_q16 fd_q16 P_q16 s_q16)
    (hlaw : ∀ as pn Q, as.length = 2 → dsp as pn Q → t_q22 s_q3 s_q10 s_q21 s_q16 { nx := fun _ => False, rt := fun _ _ => False, ro := Q } ⟨startD 9 as, pn⟩) : FnO P w K mg base (k + 1) f_q22 fd_q22 P_q22 dsp :=
  FnO.mk D_q22 sc_q22 (fun cdv A outer s H E O => (css_cons (cs_set 2 O (ce_call F_q3 O D_q3.m D_q3.F.kp (bd_q3 D_q3) (ca_cons (co_slot 0) ca_nil)))
    (css_cons (cs_setLc 3 [(("places" : Str), 5)] O (ci_seq (ce_callO F_q10 O D_q10.m D_q10.F.kp (bd_q10 D_q10) (ca_cons (co_slot 0) (ca_cons (co_slot 1) (ca_cons (co_slot 2) ca_nil))))) (fun _ _ _ _ _ => (cg_n 5 O.blk.nd)) (fun _ _ _ _ _ => cts_nil) (fun _ _ _ _ _ => (co_val (ce_call F_q21 O.blk D_q21.m D_q21.F.kp (bd_q21 D_q21) (ca_cons (co_slot 0) (ca_cons (co_slot 1) (ca_cons (co_slot 2) (ca_cons (co_slot 5) ca_nil))))))))
    (css_cons (cs_if (ct_cmp od_is (ce_sub (co_slot 0) ce_int) ce_non) (css_one (cs_retO (ce_callB (cd_sortT O) (B.get "sorted") b_sorted (ca_cons (ce_lc [(("row" : Str), 6)] O (ci_seq (co_slot 3)) (fun _ _ _ _ _ => (cg_n 6 O.blk.nd)) (fun _ _ _ _ _ => cts_nil) (fun _ _ _ _ _ => (co_val (ce_callTy cd_tuple (B.get "tuple") b_tuple (ca_cons (ce_lc [(("column" : Str), 8)] O.blk (ci_seq (ce_sub (co_slot 0) ce_int)) (fun _ _ _ _ _ => (cg_n 8 O.blk.blk.nd)) (fun _ _ _ _ _ => cts_nil) (fun _ _ _ _ _ => (co_val (ce_call F_q16 O.blk.blk D_q16.m D_q16.F.kp (bd_q16 D_q16) (ca_cons (co_slot 2) (ca_cons (co_slot 6) (ca_cons (co_slot 8) ca_nil))))))) ca_nil))))) ca_nil)))) css_nil)
    (css_cons (cs_set 4 O (ce_lc [(("row" : Str), 6)] O (ci_seq (co_slot 3)) (fun _ _ _ _ _ => (cg_n 6 O.blk.nd)) (fun _ _ _ _ _ => cts_nil) (fun _ _ _ _ _ => (co_val (ce_call F_q16 O.blk D_q16.m D_q16.F.kp (bd_q16 D_q16) (ca_cons (co_slot 2) (ca_cons (co_slot 6) (ca_cons (co_val (ce_sub (co_slot 0) ce_int)) ca_nil))))))))
    (css_one (cs_retO (ce_lc [(("value" : Str), 7)] O (ci_seq (ce_sortedSet O (B.get "sorted") (B.get "set") (co_slot 4))) (fun _ _ _ _ _ => (cg_n 7 O.blk.nd)) (fun _ _ _ _ _ => cts_nil) (fun _ _ _ _ _ => (co_val (ce_tup (ca_cons (co_val (ce_var 7)) (ca_cons (co_val (ce_count O.blk (co_slot 4) (co_slot 7))) ca_nil))))))))))))) hlaw
theorem sc_q19 : FnScope N_q19 P_q19 (defScope S_q19) := ⟨rfl, rfl, rfl, by decide +kernel, rfl, by decide +kernel, by decide +kernel⟩
theorem bd_q19 {K : Fg} {mg : Str → Option Value} {f : Addr} {fd : FuncData} (D : Dfn K mg "_law_open" S_q19 f fd) : Binds K fd P_q19 [] := D.F.bindsN fun _ _ _ _ _ _ us hl => match us, hl with | [_], _ => rfl
def t_q19 : DS :=
    (sCons (dSet 1 (dCB listD (aCons (tmpD (dScr 0 pNone (pSome (tmpD (dC (.int 12)))))) aNil)))
    (sCons (dFor (iEn (aCons (tmpD (dScr 0 (pSome (tmpD (dC (.int 12)))) (pSome (tmpD (dC (.int 63)))))) aNil)) (gT 2 (gCons (gN 2) (gCons (gN 3) gNil))) (dSetIx 1 (tmpD (dBin modD (tmpD (dCB intD (aCons (oSlot 2) aNil))) (tmpD (dC (.int 12))))) (dBin addD (tmpD (dBin ixD (oSlot 1) (tmpD (dBin modD (tmpD (dCB intD (aCons (oSlot 2) aNil))) (tmpD (dC (.int 12))))))) (oSlot 3))))
    (dRet (dDisp Rs.own (aCons (oVal (dVar 1)) (aCons (oVal (dC (.int 0))) (aCons (oVal (dC (.int 0))) aNil)))))))
theorem ok_q19 {P : Program} {w : World} {K : Fg} {mg : Str → Option Value} {base : Heap} {k : Nat} {f_q19 : Addr} {fd_q19 : FuncData}    {dsp : DSp}
    (B : Blt mg) (D_q19 : Dfn K mg "_law_open" S_q19 f_q19 fd_q19)
    (hlaw : ∀ as pn Q, as.length = 1 → dsp as pn Q → t_q19 { nx := fun ρ => Q .none ρ.pn, rt := Q } ⟨startD 4 as, pn⟩) : FnD P w K mg base (k + 1) f_q19 fd_q19 P_q19 dsp :=
  FnD.mkD D_q19 sc_q19 (fun cdv A outer s H E O => (css_cons (cs_set 1 O (ce_callTy cd_list (B.get "list") b_list (ca_cons (ce_scr 0 cp_none (cp_some ce_int)) ca_nil)))
    (css_cons (cs_for O (ci_enum (B.get "enumerate") (ca_cons (ce_scr 0 (cp_some ce_int) (cp_some ce_int)) ca_nil)) (cg_t O (cgs_cons (cg_n 2 O.nd) (cgs_cons (cg_n 3 O.nd) cgs_nil))) (css_one (cs_setIx 1 (ce_bin od_mod (ce_callTy cd_int (B.get "int") b_int (ca_cons (co_slot 2) ca_nil)) ce_int) (ce_bin od_add (ce_sub (co_slot 1) (ce_bin od_mod (ce_callTy cd_int (B.get "int") b_int (ca_cons (co_slot 2) ca_nil)) ce_int)) (co_slot 3)))))
    (css_one (cs_ret (ce_lst (ca_cons (co_val (ce_var 1)) (ca_cons (co_val ce_int) (ca_cons (co_val ce_int) ca_nil))))))))) hlaw
theorem sc_q12 : FnScope N_q12 P_q12 (defScope S_q12) := ⟨rfl, rfl, rfl, by decide +kernel, rfl, by decide +kernel, by decide +kernel⟩
theorem bd_q12 {K : Fg} {mg : Str → Option Value} {f : Addr} {fd : FuncData} (D : Dfn K mg "_law_spread" S_q12 f fd) : Binds K fd P_q12 [] := D.F.bindsN fun _ _ _ _ _ _ us hl => match us, hl with | [_, _], _ => rfl
def t_q12 : DS :=
    (sCons (dIfS (dTst (tmpD (dBin geD (oSlot 0) (tmpD (dBin powD (tmpD (dC (.int 10))) (tmpD (dC (.int 18)))))))) (dRet (dVar 0)) sNil)
    (sCons (dSet 2 (dDisp Rs.own (aCons (oVal (dC (.int 2147483629))) (aCons (oVal (dC (.int 2147483587))) (aCons (oVal (dC (.int 2147483579))) (aCons (oVal (dC (.int 2147483563))) (aCons (oVal (dC (.int 2147483549))) (aCons (oVal (dC (.int 2147483543))) (aCons (oVal (dC (.int 2147483497))) (aCons (oVal (dC (.int 2147483489))) aNil))))))))))
    (sCons (dSet 2 (dBin addD (oSlot 2) (tmpD (dDisp Rs.own (aCons (oVal (dC (.int 2147483477))) (aCons (oVal (dC (.int 2147483423))) (aCons (oVal (dC (.int 2147483399))) (aCons (oVal (dC (.int 2147483353))) (aCons (oVal (dC (.int 2147483323))) aNil)))))))))
    (sCons (dSet 3 (dBin addD (tmpD (dBin addD (tmpD (dBin mulT (tmpD (dBin modD (tmpD (dCB intD (aCons (oSlot 0) aNil))) (tmpD (dC (.int 1000000007))))) (tmpD (dBin addD (tmpD (dBin mulT (tmpD (dC (.int 2))) (oSlot 1))) (tmpD (dC (.int 69069))))))) (tmpD (dBin mulT (oSlot 1) (tmpD (dC (.int 40503))))))) (tmpD (dC (.int 977)))))
    (sCons (dSet 3 (dBin modD (tmpD (dCB intD (aCons (tmpD (dBin powD (oSlot 3) (tmpD (dC (.int 3))))) aNil))) (tmpD (dBin ixD (oSlot 2) (tmpD (dBin modD (tmpD (dCB intD (aCons (oSlot 1) aNil))) (tmpD (dC (.int 13)))))))))
    (sCons (dSet 4 (dBin modD (tmpD (dCB intD (aCons (tmpD (dBin powD (tmpD (dBin addD (tmpD (dBin addD (tmpD (dBin mulT (oSlot 3) (tmpD (dBin addD (oSlot 1) (tmpD (dC (.int 3))))))) (tmpD (dBin modD (tmpD (dCB intD (aCons (oSlot 0) aNil))) (tmpD (dC (.int 65537))))))) (tmpD (dC (.int 5))))) (tmpD (dC (.int 5))))) aNil))) (tmpD (dBin ixD (oSlot 2) (tmpD (dBin modD (tmpD (dCB intD (aCons (tmpD (dBin addD (oSlot 1) (tmpD (dC (.int 5))))) aNil))) (tmpD (dC (.int 13)))))))))
    (sCons (dSet 5 (dBin modD (tmpD (dCB intD (aCons (tmpD (dBin powD (tmpD (dBin addD (tmpD (dBin addD (oSlot 4) (tmpD (dBin modD (tmpD (dCB intD (aCons (oSlot 3) aNil))) (tmpD (dC (.int 1009))))))) (oSlot 1))) (tmpD (dC (.int 3))))) aNil))) (tmpD (dBin ixD (oSlot 2) (tmpD (dBin modD (tmpD (dCB intD (aCons (tmpD (dBin addD (oSlot 1) (tmpD (dC (.int 7))))) aNil))) (tmpD (dC (.int 13)))))))))
    (dRet (dBin addD (tmpD (dBin mulT (tmpD (dBin addD (tmpD (dBin mulT (oSlot 3) (tmpD (dC (.int 2147483647))))) (oSlot 4))) (tmpD (dC (.int 2147483647))))) (oSlot 5))))))))))
theorem ok_q12 {P : Program} {w : World} {K : Fg} {mg : Str → Option Value} {base : Heap} {k : Nat} {f_q12 : Addr} {fd_q12 : FuncData}    {dsp : DSp}
    (B : Blt mg) (D_q12 : Dfn K mg "_law_spread" S_q12 f_q12 fd_q12)
    (hlaw : ∀ as pn Q, as.length = 2 → dsp as pn Q → t_q12 { nx := fun ρ => Q .none ρ.pn, rt := Q } ⟨startD 6 as, pn⟩) : FnD P w K mg base (k + 1) f_q12 fd_q12 P_q12 dsp :=
  FnD.mkD D_q12 sc_q12 (fun cdv A outer s H E O => (css_cons (cs_if (ct_cmp od_ge (co_slot 0) (ce_bin od_pow ce_int ce_int)) (css_one (cs_ret (ce_var 0))) css_nil)
    (css_cons (cs_set 2 O (ce_lst (ca_cons (co_val ce_int) (ca_cons (co_val ce_int) (ca_cons (co_val ce_int) (ca_cons (co_val ce_int) (ca_cons (co_val ce_int) (ca_cons (co_val ce_int) (ca_cons (co_val ce_int) (ca_cons (co_val ce_int) ca_nil))))))))))
    (css_cons (cs_set 2 O (ce_bin od_add (co_slot 2) (ce_lst (ca_cons (co_val ce_int) (ca_cons (co_val ce_int) (ca_cons (co_val ce_int) (ca_cons (co_val ce_int) (ca_cons (co_val ce_int) ca_nil))))))))
    (css_cons (cs_set 3 O (ce_bin od_add (ce_bin od_add (ce_bin od_mulT (ce_bin od_mod (ce_callTy cd_int (B.get "int") b_int (ca_cons (co_slot 0) ca_nil)) ce_int) (ce_bin od_add (ce_bin od_mulT ce_int (co_slot 1)) ce_int)) (ce_bin od_mulT (co_slot 1) ce_int)) ce_int))
    (css_cons (cs_set 3 O (ce_bin od_mod (ce_callTy cd_int (B.get "int") b_int (ca_cons (ce_bin od_pow (co_slot 3) ce_int) ca_nil)) (ce_sub (co_slot 2) (ce_bin od_mod (ce_callTy cd_int (B.get "int") b_int (ca_cons (co_slot 1) ca_nil)) ce_int))))
    (css_cons (cs_set 4 O (ce_bin od_mod (ce_callTy cd_int (B.get "int") b_int (ca_cons (ce_bin od_pow (ce_bin od_add (ce_bin od_add (ce_bin od_mulT (co_slot 3) (ce_bin od_add (co_slot 1) ce_int)) (ce_bin od_mod (ce_callTy cd_int (B.get "int") b_int (ca_cons (co_slot 0) ca_nil)) ce_int)) ce_int) ce_int) ca_nil)) (ce_sub (co_slot 2) (ce_bin od_mod (ce_callTy cd_int (B.get "int") b_int (ca_cons (ce_bin od_add (co_slot 1) ce_int) ca_nil)) ce_int))))
    (css_cons (cs_set 5 O (ce_bin od_mod (ce_callTy cd_int (B.get "int") b_int (ca_cons (ce_bin od_pow (ce_bin od_add (ce_bin od_add (co_slot 4) (ce_bin od_mod (ce_callTy cd_int (B.get "int") b_int (ca_cons (co_slot 3) ca_nil)) ce_int)) (co_slot 1)) ce_int) ca_nil)) (ce_sub (co_slot 2) (ce_bin od_mod (ce_callTy cd_int (B.get "int") b_int (ca_cons (ce_bin od_add (co_slot 1) ce_int) ca_nil)) ce_int))))
    (css_one (cs_ret (ce_bin od_add (ce_bin od_mulT (ce_bin od_add (ce_bin od_mulT (co_slot 3) ce_int) (co_slot 4)) ce_int) (co_slot 5)))))))))))) hlaw
theorem sc_q17 : FnScope N_q17 P_q17 (defScope S_q17) := ⟨rfl, rfl, rfl, by decide +kernel, rfl, by decide +kernel, by decide +kernel⟩
theorem bd_q17 {K : Fg} {mg : Str → Option Value} {f : Addr} {fd : FuncData} (D : Dfn K mg "_law_take" S_q17 f fd) : Binds K fd P_q17 [] := D.F.bindsN fun _ _ _ _ _ _ us hl => match us, hl with | [_, _], _ => rfl
def t_q17 (s_q12 : DSp) : DS :=
    (sCons (dIfS (dTst (tmpD (dBin ltD (tmpD (dPen 0 2)) (oSlot 1)))) (sCons (dSet 3 (dPen 0 1))
    (sCons (dSet 4 (dC (.int 0)))
    (sCons (dIfS (dTst (tmpD (dBin ltD (oSlot 3) (tmpD (dCB lenD (aCons (tmpD (dPen 0 0)) aNil)))))) (dSet 4 (dBin ixD (tmpD (dPen 0 0)) (oSlot 3))) (dIfS (dTst (tmpD (dBin gtD (tmpD (dCB lenD (aCons (tmpD (dPen 0 0)) aNil))) (tmpD (dC (.int 0)))))) (dSet 4 (dBin modD (tmpD (dCB intD (aCons (tmpD (dBin ixD (tmpD (dPen 0 0)) (tmpD (dBin modD (tmpD (dCB intD (aCons (tmpD (dBin addD (tmpD (dBin mulT (oSlot 3) (tmpD (dC (.int 5))))) (tmpD (dC (.int 3))))) aNil))) (tmpD (dCB lenD (aCons (tmpD (dPen 0 0)) aNil))))))) aNil))) (tmpD (dBin addD (tmpD (dBin powD (tmpD (dC (.int 10))) (tmpD (dC (.int 17))))) (oSlot 3))))) sNil))
    (sCons (dPenSet 0 1 (dBin addD (oSlot 3) (tmpD (dC (.int 1)))))
    (dPenSet 0 2 (dCall 2 s_q12 (aCons (oSlot 4) (aCons (oSlot 3) aNil)))))))) sNil)
    (sCons (dSet 2 (dBin modD (tmpD (dCB intD (aCons (tmpD (dPen 0 2)) aNil))) (oSlot 1)))
    (sCons (dPenSet 0 2 (dBin fdivD (tmpD (dPen 0 2)) (oSlot 1)))
    (dRet (dVar 2)))))
theorem ok_q17 {P : Program} {w : World} {K : Fg} {mg : Str → Option Value} {base : Heap} {k : Nat} {f_q17 : Addr} {fd_q17 : FuncData}  {f_q12 : Addr} {fd_q12 : FuncData} {s_q12 : DSp} {dsp : DSp}
    (B : Blt mg) (D_q17 : Dfn K mg "_law_take" S_q17 f_q17 fd_q17)    (D_q12 : Dfn K mg "_law_spread" S_q12 f_q12 fd_q12)  (F_q12 : FnD P w K mg base k f_q12 fd_q12 P_q12 s_q12)
    (hlaw : ∀ as pn Q, as.length = 2 → dsp as pn Q → t_q17 s_q12 { nx := fun ρ => Q .none ρ.pn, rt := Q } ⟨startD 5 as, pn⟩) : FnD P w K mg base (k + 1) f_q17 fd_q17 P_q17 dsp :=
  FnD.mkD D_q17 sc_q17 (fun cdv A outer s H E O => (css_cons (cs_if (ct_cmp od_lt (ce_pen 0) (co_slot 1)) (css_cons (cs_set 3 O (ce_pen 0))
    (css_cons (cs_set 4 O ce_int)
    (css_cons (cs_if (ct_cmp od_lt (co_slot 3) (ce_callB cd_len (B.get "len") b_len (ca_cons (ce_pen 0) ca_nil))) (css_one (cs_set 4 O (ce_sub (ce_pen 0) (co_slot 3)))) (css_one (cs_if (ct_cmp od_gt (ce_callB cd_len (B.get "len") b_len (ca_cons (ce_pen 0) ca_nil)) ce_int) (css_one (cs_set 4 O (ce_bin od_mod (ce_callTy cd_int (B.get "int") b_int (ca_cons (ce_sub (ce_pen 0) (ce_bin od_mod (ce_callTy cd_int (B.get "int") b_int (ca_cons (ce_bin od_add (ce_bin od_mulT (co_slot 3) ce_int) ce_int) ca_nil)) (ce_callB cd_len (B.get "len") b_len (ca_cons (ce_pen 0) ca_nil)))) ca_nil)) (ce_bin od_add (ce_bin od_pow ce_int ce_int) (co_slot 3))))) css_nil)))
    (css_cons (cs_setPen 0 (ce_bin od_add (co_slot 3) ce_int))
    (css_one (cs_setPen 0 (ce_call F_q12 O D_q12.m D_q12.F.kp (bd_q12 D_q12) (ca_cons (co_slot 4) (ca_cons (co_slot 3) ca_nil))))))))) css_nil)
    (css_cons (cs_set 2 O (ce_bin od_mod (ce_callTy cd_int (B.get "int") b_int (ca_cons (ce_pen 0) ca_nil)) (co_slot 1)))
    (css_cons (cs_setPen 0 (ce_bin od_fdiv (ce_pen 0) (co_slot 1)))
    (css_one (cs_ret (ce_var 2))))))) hlaw
theorem sc_q18 : FnScope N_q18 P_q18 (defScope S_q18) := ⟨rfl, rfl, rfl, by decide +kernel, rfl, by decide +kernel, by decide +kernel⟩
theorem bd_q18 {K : Fg} {mg : Str → Option Value} {f : Addr} {fd : FuncData} (D : Dfn K mg "_law_same" S_q18 f fd) : Binds K fd P_q18 [] := D.F.bindsN fun _ _ _ _ _ _ us hl => match us, hl with | [_, _], _ => rfl
def t_q18 (s_q18 : DSp) : DS :=
    (sCons (dIfS (dOr (dTst (tmpD (dBin (isD false) (oSlot 1) (tmpD (dC .none))))) (dTst (tmpD (dBin (isD false) (oSlot 0) (tmpD (dC .none)))))) (dRet (dAndV (dBin (isD false) (oSlot 1) (tmpD (dC .none))) (dBin (isD false) (oSlot 0) (tmpD (dC .none))))) sNil)
    (sCons (dIfS (dOr (dTst (tmpD (dIsi .bool (oSlot 1)))) (dTst (tmpD (dIsi .bool (oSlot 0))))) (dRet (dAndV (dIsi .bool (oSlot 1)) (dAndV (dIsi .bool (oSlot 0)) (dBin eqD (oSlot 0) (oSlot 1))))) sNil)
    (sCons (dIfS (dTst (tmpD (dIsi2 .int .str (oSlot 1)))) (sCons (dIfS (dTst (tmpD (dBin neD (tmpD (dIsi .int (oSlot 0))) (tmpD (dIsi .int (oSlot 1)))))) (dRet (dC (.bool false))) sNil)
    (dRet (dAndV (dIsi2 .int .str (oSlot 0)) (dBin eqD (oSlot 0) (oSlot 1))))) sNil)
    (sCons (dIfS (dOr (dTst (tmpD (dBin neD (tmpD (dIsi .tuple (oSlot 1))) (tmpD (dIsi .tuple (oSlot 0)))))) (dTst (tmpD (dBin neD (tmpD (dIsi .list (oSlot 1))) (tmpD (dIsi .list (oSlot 0))))))) (dRet (dC (.bool false))) sNil)
    (sCons (dIfS (dTst (tmpD (dBin neD (tmpD (dCB lenD (aCons (oSlot 0) aNil))) (tmpD (dCB lenD (aCons (oSlot 1) aNil)))))) (dRet (dC (.bool false))) sNil)
    (dRet (dBin (inD true) (tmpD (dC (.bool false))) (tmpD (dLc (iZp false (aCons (oSlot 0) (aCons (oSlot 1) aNil))) (gT 2 (gCons (gN 2) (gCons (gN 3) gNil))) dYes (oVal (dCall 2 s_q18 (aCons (oSlot 2) (aCons (oSlot 3) aNil)))) [2, 3])))))))))
theorem ok_q18 {P : Program} {w : World} {K : Fg} {mg : Str → Option Value} {base : Heap} {k : Nat} {f_q18 : Addr} {fd_q18 : FuncData}   {s_q18 : DSp} {dsp : DSp}
    (B : Blt mg) (D_q18 : Dfn K mg "_law_same" S_q18 f_q18 fd_q18)      (F_q18 : FnD P w K mg base k f_q18 fd_q18 P_q18 s_q18)
    (hlaw : ∀ as pn Q, as.length = 2 → dsp as pn Q → t_q18 s_q18 { nx := fun ρ => Q .none ρ.pn, rt := Q } ⟨startD 4 as, pn⟩) : FnD P w K mg base (k + 1) f_q18 fd_q18 P_q18 dsp :=
  FnD.mkD D_q18 sc_q18 (fun cdv A outer s H E O => (css_cons (cs_if (ct_w (cw_or (ct_cmp od_is (co_slot 1) ce_non) (cw_or1 (ct_cmp od_is (co_slot 0) ce_non)))) (css_one (cs_ret (ce_and (ce_cmp od_is (co_slot 1) ce_non) (ce_one (ce_cmp od_is (co_slot 0) ce_non))))) css_nil)
    (css_cons (cs_if (ct_w (cw_or (ct_val (ce_isi .bool (co_slot 1) (B.get "isinstance") (B.get "bool"))) (cw_or1 (ct_val (ce_isi .bool (co_slot 0) (B.get "isinstance") (B.get "bool")))))) (css_one (cs_ret (ce_and (ce_isi .bool (co_slot 1) (B.get "isinstance") (B.get "bool")) (ce_and (ce_isi .bool (co_slot 0) (B.get "isinstance") (B.get "bool")) (ce_one (ce_cmp (od_eq O) (co_slot 0) (co_slot 1))))))) css_nil)
    (css_cons (cs_if (ct_val (ce_isi2 .int .str (co_slot 1) (B.get "isinstance") (B.get "int") (B.get "str"))) (css_cons (cs_if (ct_cmp (od_ne O) (ce_isi .int (co_slot 0) (B.get "isinstance") (B.get "int")) (ce_isi .int (co_slot 1) (B.get "isinstance") (B.get "int"))) (css_one (cs_ret ce_bl)) css_nil)
    (css_one (cs_ret (ce_and (ce_isi2 .int .str (co_slot 0) (B.get "isinstance") (B.get "int") (B.get "str")) (ce_one (ce_cmp (od_eq O) (co_slot 0) (co_slot 1))))))) css_nil)
    (css_cons (cs_if (ct_w (cw_or (ct_cmp (od_ne O) (ce_isi .tuple (co_slot 1) (B.get "isinstance") (B.get "tuple")) (ce_isi .tuple (co_slot 0) (B.get "isinstance") (B.get "tuple"))) (cw_or1 (ct_cmp (od_ne O) (ce_isi .list (co_slot 1) (B.get "isinstance") (B.get "list")) (ce_isi .list (co_slot 0) (B.get "isinstance") (B.get "list")))))) (css_one (cs_ret ce_bl)) css_nil)
    (css_cons (cs_if (ct_cmp (od_ne O) (ce_callB cd_len (B.get "len") b_len (ca_cons (co_slot 0) ca_nil)) (ce_callB cd_len (B.get "len") b_len (ca_cons (co_slot 1) ca_nil))) (css_one (cs_ret ce_bl)) css_nil)
    (css_one (cs_ret (ce_cmp (od_notin O) ce_bl (ce_lc [(("_law_one" : Str), 2), (("_law_other" : Str), 3)] O (ci_zip (B.get "zip") (ca_cons (co_slot 0) (ca_cons (co_slot 1) ca_nil))) (fun _ _ _ _ _ => (cg_t O.blk (cgs_cons (cg_n 2 O.blk.nd) (cgs_cons (cg_n 3 O.blk.nd) cgs_nil)))) (fun _ _ _ _ _ => cts_nil) (fun _ _ _ _ _ => (co_val (ce_call F_q18 O.blk D_q18.m D_q18.F.kp (bd_q18 D_q18) (ca_cons (co_slot 2) (ca_cons (co_slot 3) ca_nil))))))))))))))) hlaw
theorem sc_q11 : FnScope N_q11 P_q11 (defScope S_q11) := ⟨rfl, rfl, rfl, by decide +kernel, rfl, by decide +kernel, by decide +kernel⟩
theorem bd_q11 {K : Fg} {mg : Str → Option Value} {f : Addr} {fd : FuncData} (D : Dfn K mg "_law_one_of" S_q11 f fd) : Binds K fd P_q11 [] := D.F.bindsN fun _ _ _ _ _ _ us hl => match us, hl with | [_, _], _ => rfl
def t_q11 (s_q17 : DSp) : DS :=
    (dRet (dBin ixD (oSlot 1) (tmpD (dCall 2 s_q17 (aCons (oSlot 0) (aCons (oVal (dCB lenD (aCons (oSlot 1) aNil))) aNil))))))
theorem ok_q11 {P : Program} {w : World} {K : Fg} {mg : Str → Option Value} {base : Heap} {k : Nat} {f_q11 : Addr} {fd_q11 : FuncData}  {f_q17 : Addr} {fd_q17 : FuncData} {s_q17 : DSp} {dsp : DSp}
    (B : Blt mg) (D_q11 : Dfn K mg "_law_one_of" S_q11 f_q11 fd_q11)    (D_q17 : Dfn K mg "_law_take" S_q17 f_q17 fd_q17)  (F_q17 : FnD P w K mg base k f_q17 fd_q17 P_q17 s_q17)
    (hlaw : ∀ as pn Q, as.length = 2 → dsp as pn Q → t_q11 s_q17 { nx := fun ρ => Q .none ρ.pn, rt := Q } ⟨startD 2 as, pn⟩) : FnD P w K mg base (k + 1) f_q11 fd_q11 P_q11 dsp :=
  FnD.mkD D_q11 sc_q11 (fun cdv A outer s H E O => (css_one (cs_ret (ce_sub (co_slot 1) (ce_call F_q17 O D_q17.m D_q17.F.kp (bd_q17 D_q17) (ca_cons (co_slot 0) (ca_cons (co_val (ce_callB cd_len (B.get "len") b_len (ca_cons (co_slot 1) ca_nil))) ca_nil))))))) hlaw
theorem sc_q1 : FnScope N_q1 P_q1 (defScope S_q1) := ⟨rfl, rfl, rfl, by decide +kernel, rfl, by decide +kernel, by decide +kernel⟩
theorem bd_q1 {K : Fg} {mg : Str → Option Value} {f : Addr} {fd : FuncData} (D : Dfn K mg "_law_draw_scheme" S_q1 f fd) : Binds K fd P_q1 [] := D.F.bindsN fun _ _ _ _ _ _ us hl => match us, hl with | [_], _ => rfl
def t_q1 (s_q17 : DSp) : DS :=
    (dRet (dCB tupleD (aCons (tmpD (dLc (iRange1 (tmpD (dBin addD (tmpD (dC (.int 1))) (tmpD (dCall 2 s_q17 (aCons (oSlot 0) (aCons (oVal (dC (.int 4))) aNil))))))) (gN 1) dYes (oVal (dBin addD (tmpD (dC (.int 1))) (tmpD (dCall 2 s_q17 (aCons (oSlot 0) (aCons (oVal (dC (.int 3))) aNil)))))) [1])) aNil)))
theorem ok_q1 {P : Program} {w : World} {K : Fg} {mg : Str → Option Value} {base : Heap} {k : Nat} {f_q1 : Addr} {fd_q1 : FuncData}  {f_q17 : Addr} {fd_q17 : FuncData} {s_q17 : DSp} {dsp : DSp}
    (B : Blt mg) (D_q1 : Dfn K mg "_law_draw_scheme" S_q1 f_q1 fd_q1)    (D_q17 : Dfn K mg "_law_take" S_q17 f_q17 fd_q17)  (F_q17 : FnD P w K mg base k f_q17 fd_q17 P_q17 s_q17)
    (hlaw : ∀ as pn Q, as.length = 1 → dsp as pn Q → t_q1 s_q17 { nx := fun ρ => Q .none ρ.pn, rt := Q } ⟨startD 2 as, pn⟩) : FnD P w K mg base (k + 1) f_q1 fd_q1 P_q1 dsp :=
  FnD.mkD D_q1 sc_q1 (fun cdv A outer s H E O => (css_one (cs_ret (ce_callTy cd_tuple (B.get "tuple") b_tuple (ca_cons (ce_lc [(("_law_again" : Str), 1)] O (ci_range1 (B.get "range") (ce_bin od_add ce_int (ce_call F_q17 O D_q17.m D_q17.F.kp (bd_q17 D_q17) (ca_cons (co_slot 0) (ca_cons (co_val ce_int) ca_nil))))) (fun _ _ _ _ _ => (cg_n 1 O.blk.nd)) (fun _ _ _ _ _ => cts_nil) (fun _ _ _ _ _ => (co_val (ce_bin od_add ce_int (ce_call F_q17 O.blk D_q17.m D_q17.F.kp (bd_q17 D_q17) (ca_cons (co_slot 0) (ca_cons (co_val ce_int) ca_nil))))))) ca_nil))))) hlaw
theorem sc_q0 : FnScope N_q0 P_q0 (defScope S_q0) := ⟨rfl, rfl, rfl, by decide +kernel, rfl, by decide +kernel, by decide +kernel⟩
theorem bd_q0 {K : Fg} {mg : Str → Option Value} {f : Addr} {fd : FuncData} (D : Dfn K mg "_law_draw_database" S_q0 f fd) : Binds K fd P_q0 [] := D.F.bindsN fun _ _ _ _ _ _ us hl => match us, hl with | [_, _, _], _ => rfl
def t_q0 (s_q11 s_q17 : DSp) : DS :=
    (sCons (dPar2 4 5 (aCons (tmpD (dCall 2 s_q11 (aCons (oSlot 0) (aCons (oVal (dDisp Rs.own (aCons (oVal (dC (.int 2))) (aCons (oVal (dC (.int 3))) (aCons (oVal (dC (.int 3))) (aCons (oVal (dC (.int 100))) aNil)))))) aNil)))) (aCons (tmpD (dDisp Rs.own aNil)) aNil)))
    (sCons (dFor (iSeq (oFix 1)) (gN 3) (sCons (dSet 6 (dDisp Rs.own aNil))
    (sCons (dFor (iRange1 (tmpD (dCall 2 s_q17 (aCons (oSlot 0) (aCons (oVal (dBin addD (oSlot 2) (tmpD (dC (.int 1))))) aNil))))) (gN 7) (sCons (dSet 8 (dCB tupleD (aCons (tmpD (dLc (iRange1 (oSlot 3)) (gN 9) dYes (oVal (dCall 2 s_q17 (aCons (oSlot 0) (aCons (oSlot 4) aNil)))) [9])) aNil)))
    (dExpr (dAppend 6 (oVal (dIfE (dAnd (dTst (tmpD (dBin neD (oSlot 6) (tmpD (dDisp Rs.own aNil))))) (dTst (tmpD (dBin eqD (tmpD (dCall 2 s_q17 (aCons (oSlot 0) (aCons (oVal (dC (.int 4))) aNil)))) (tmpD (dC (.int 0))))))) (dCall 2 s_q11 (aCons (oSlot 0) (aCons (oSlot 6) aNil))) (dVar 8)))))))
    (dExpr (dAppend 5 (oVal (dCB tupleD (aCons (tmpD (dCB sortedD (aCons (oSlot 6) aNil))) aNil))))))))
    (dRet (dCB tupleD (aCons (oSlot 5) aNil)))))
theorem ok_q0 {P : Program} {w : World} {K : Fg} {mg : Str → Option Value} {base : Heap} {k : Nat} {f_q0 : Addr} {fd_q0 : FuncData}  {f_q11 : Addr} {fd_q11 : FuncData} {f_q17 : Addr} {fd_q17 : FuncData} {s_q11 s_q17 : DSp} {dsp : DSp}
    (B : Blt mg) (D_q0 : Dfn K mg "_law_draw_database" S_q0 f_q0 fd_q0)    (D_q11 : Dfn K mg "_law_one_of" S_q11 f_q11 fd_q11) (D_q17 : Dfn K mg "_law_take" S_q17 f_q17 fd_q17)  (F_q11 : FnD P w K mg base k f_q11 fd_q11 P_q11 s_q11) (F_q17 : FnD P w K mg base k f_q17 fd_q17 P_q17 s_q17)
    (hlaw : ∀ as pn Q, as.length = 3 → dsp as pn Q → t_q0 s_q11 s_q17 { nx := fun ρ => Q .none ρ.pn, rt := Q } ⟨startD 10 as, pn⟩) : FnD P w K mg base (k + 1) f_q0 fd_q0 P_q0 dsp :=
  FnD.mkD D_q0 sc_q0 (fun cdv A outer s H E O => (css_cons (cs_par2t 4 5 O (ca_cons (ce_call F_q11 O D_q11.m D_q11.F.kp (bd_q11 D_q11) (ca_cons (co_slot 0) (ca_cons (co_val (ce_lst (ca_cons (co_val ce_int) (ca_cons (co_val ce_int) (ca_cons (co_val ce_int) (ca_cons (co_val ce_int) ca_nil)))))) ca_nil))) (ca_cons (ce_lst ca_nil) ca_nil)))
    (css_cons (cs_for O (ci_seq (co_fix 1)) (cg_n 3 O.nd) (css_cons (cs_set 6 O (ce_lst ca_nil))
    (css_cons (cs_for O (ci_range1 (B.get "range") (ce_call F_q17 O D_q17.m D_q17.F.kp (bd_q17 D_q17) (ca_cons (co_slot 0) (ca_cons (co_val (ce_bin od_add (co_slot 2) ce_int)) ca_nil)))) (cg_n 7 O.nd) (css_cons (cs_set 8 O (ce_callTy cd_tuple (B.get "tuple") b_tuple (ca_cons (ce_lc [(("_law_k" : Str), 9)] O (ci_range1 (B.get "range") (co_slot 3)) (fun _ _ _ _ _ => (cg_n 9 O.blk.nd)) (fun _ _ _ _ _ => cts_nil) (fun _ _ _ _ _ => (co_val (ce_call F_q17 O.blk D_q17.m D_q17.F.kp (bd_q17 D_q17) (ca_cons (co_slot 0) (ca_cons (co_slot 4) ca_nil)))))) ca_nil)))
    (css_one (cs_expr (ce_append 6 (co_val (ce_if (ct_w (cw_and (ct_cmp (od_ne O) (co_slot 6) (ce_lst ca_nil)) (cw_and1 (ct_cmp (od_eq O) (ce_call F_q17 O D_q17.m D_q17.F.kp (bd_q17 D_q17) (ca_cons (co_slot 0) (ca_cons (co_val ce_int) ca_nil))) ce_int)))) (ce_call F_q11 O D_q11.m D_q11.F.kp (bd_q11 D_q11) (ca_cons (co_slot 0) (ca_cons (co_slot 6) ca_nil))) (ce_var 8))))))))
    (css_one (cs_expr (ce_append 5 (co_val (ce_callTy cd_tuple (B.get "tuple") b_tuple (ca_cons (ce_callB (cd_sorted O) (B.get "sorted") b_sorted (ca_cons (co_slot 6) ca_nil)) ca_nil)))))))))
    (css_one (cs_ret (ce_callTy cd_tuple (B.get "tuple") b_tuple (ca_cons (co_slot 5) ca_nil))))))) hlaw
theorem sc_q2 : FnScope N_q2 P_q2 (defScope S_q2) := ⟨rfl, rfl, rfl, by decide +kernel, rfl, by decide +kernel, by decide +kernel⟩
theorem bd_q2 {K : Fg} {mg : Str → Option Value} {f : Addr} {fd : FuncData} (D : Dfn K mg "_law_draw_column" S_q2 f fd) : Binds K fd P_q2 [] := D.F.bindsN fun _ _ _ _ _ _ us hl => match us, hl with | [_, _, _], _ => rfl
def t_q2 (s_q17 : DSp) : DS :=
    (sCons (dSet 3 (dCall 2 s_q17 (aCons (oSlot 0) (aCons (oVal (dCB lenD (aCons (oSlot 2) aNil))) aNil))))
    (dRet (dDisp mkT (aCons (oVal (dVar 3)) (aCons (oVal (dCall 2 s_q17 (aCons (oSlot 0) (aCons (oVal (dBin ixD (oSlot 1) (tmpD (dBin ixD (oSlot 2) (oSlot 3))))) aNil)))) aNil)))))
theorem ok_q2 {P : Program} {w : World} {K : Fg} {mg : Str → Option Value} {base : Heap} {k : Nat} {f_q2 : Addr} {fd_q2 : FuncData}  {f_q17 : Addr} {fd_q17 : FuncData} {s_q17 : DSp} {dsp : DSp}
    (B : Blt mg) (D_q2 : Dfn K mg "_law_draw_column" S_q2 f_q2 fd_q2)    (D_q17 : Dfn K mg "_law_take" S_q17 f_q17 fd_q17)  (F_q17 : FnD P w K mg base k f_q17 fd_q17 P_q17 s_q17)
    (hlaw : ∀ as pn Q, as.length = 3 → dsp as pn Q → t_q2 s_q17 { nx := fun ρ => Q .none ρ.pn, rt := Q } ⟨startD 4 as, pn⟩) : FnD P w K mg base (k + 1) f_q2 fd_q2 P_q2 dsp :=
  FnD.mkD D_q2 sc_q2 (fun cdv A outer s H E O => (css_cons (cs_set 3 O (ce_call F_q17 O D_q17.m D_q17.F.kp (bd_q17 D_q17) (ca_cons (co_slot 0) (ca_cons (co_val (ce_callB cd_len (B.get "len") b_len (ca_cons (co_slot 2) ca_nil))) ca_nil))))
    (css_one (cs_ret (ce_tup (ca_cons (co_val (ce_var 3)) (ca_cons (co_val (ce_call F_q17 O D_q17.m D_q17.F.kp (bd_q17 D_q17) (ca_cons (co_slot 0) (ca_cons (co_val (ce_sub (co_slot 1) (ce_sub (co_slot 2) (co_slot 3)))) ca_nil)))) ca_nil))))))) hlaw
theorem sc_q4 : FnScope N_q4 P_q4 (defScope S_q4) := ⟨rfl, rfl, rfl, by decide +kernel, rfl, by decide +kernel, by decide +kernel⟩
theorem bd_q4 {K : Fg} {mg : Str → Option Value} {f : Addr} {fd : FuncData} (D : Dfn K mg "_law_draw_query" S_q4 f fd) : Binds K fd P_q4 [] := D.F.bindsN fun _ _ _ _ _ _ us hl => match us, hl with | [_, _, _], _ => rfl
def t_q4 (s_q17 s_q11 s_q2 : DSp) : DS :=
    (sCons (dSet 3 (dCB tupleD (aCons (tmpD (dLc (iRange1 (tmpD (dBin addD (tmpD (dC (.int 1))) (tmpD (dCall 2 s_q17 (aCons (oSlot 0) (aCons (oSlot 2) aNil))))))) (gN 4) dYes (oVal (dCall 2 s_q17 (aCons (oSlot 0) (aCons (oVal (dCB lenD (aCons (oSlot 1) aNil))) aNil)))) [4])) aNil)))
    (sCons (dPar2 8 9 (aCons (tmpD (dDisp Rs.own aNil)) (aCons (tmpD (dDisp Rs.own aNil)) aNil)))
    (sCons (dFor (iRange1 (tmpD (dCall 2 s_q11 (aCons (oSlot 0) (aCons (oVal (dDisp Rs.own (aCons (oVal (dC (.int 0))) (aCons (oVal (dC (.int 0))) (aCons (oVal (dC (.int 1))) (aCons (oVal (dC (.int 1))) (aCons (oVal (dC (.int 2))) (aCons (oVal (dC (.int 4))) aNil)))))))) aNil))))) (gN 4) (sCons (dSet 10 (dCall 2 s_q11 (aCons (oSlot 0) (aCons (oVal (dDisp Rs.own (aCons (oVal (dC (.str ("least" : Str)))) (aCons (oVal (dC (.str ("most" : Str)))) aNil)))) aNil))))
    (sCons (dSet 11 (dIfE (dTst (tmpD (dBin eqD (oSlot 10) (tmpD (dC (.str ("least" : Str))))))) (dCall 2 s_q11 (aCons (oSlot 0) (aCons (oVal (dDisp Rs.own (aCons (oVal (dC (.int 0))) (aCons (oVal (dC (.int 1))) (aCons (oVal (dC (.int 1))) (aCons (oVal (dC (.int 2))) (aCons (oVal (dC (.int 50))) (aCons (oVal (dC (.int 99))) aNil)))))))) aNil))) (dCall 2 s_q11 (aCons (oSlot 0) (aCons (oVal (dDisp Rs.own (aCons (oVal (dC (.int 0))) (aCons (oVal (dC (.int 1))) (aCons (oVal (dC (.int 2))) (aCons (oVal (dC (.int 2))) (aCons (oVal (dC (.int 50))) (aCons (oVal (dC (.int 99))) aNil)))))))) aNil)))))
    (dExpr (dAppend 8 (oVal (dDisp mkT (aCons (oVal (dCall 3 s_q2 (aCons (oSlot 0) (aCons (oSlot 1) (aCons (oSlot 3) aNil))))) (aCons (oVal (dVar 10)) (aCons (oVal (dVar 11)) aNil))))))))))
    (sCons (dFor (iRange1 (tmpD (dCall 2 s_q11 (aCons (oSlot 0) (aCons (oVal (dDisp Rs.own (aCons (oVal (dC (.int 0))) (aCons (oVal (dC (.int 1))) (aCons (oVal (dC (.int 1))) (aCons (oVal (dC (.int 2))) (aCons (oVal (dC (.int 2))) (aCons (oVal (dC (.int 3))) aNil)))))))) aNil))))) (gN 4) (sCons (dSet 12 (dCB sortedD (aCons (tmpD (dDisp Rs.own (aCons (oVal (dCall 3 s_q2 (aCons (oSlot 0) (aCons (oSlot 1) (aCons (oSlot 3) aNil))))) (aCons (oVal (dCall 3 s_q2 (aCons (oSlot 0) (aCons (oSlot 1) (aCons (oSlot 3) aNil))))) aNil)))) aNil)))
    (dIfS (dTst (tmpD (dBin ltD (tmpD (dBin ixD (tmpD (dBin ixD (oSlot 12) (tmpD (dC (.int 0))))) (tmpD (dC (.int 0))))) (tmpD (dBin ixD (tmpD (dBin ixD (oSlot 12) (tmpD (dC (.int 1))))) (tmpD (dC (.int 0)))))))) (dExpr (dAppend 9 (oVal (dCB tupleD (aCons (oSlot 12) aNil))))) sNil)))
    (sCons (dSet 5 (dIfE (dTst (tmpD (dBin eqD (tmpD (dCall 2 s_q17 (aCons (oSlot 0) (aCons (oVal (dC (.int 3))) aNil)))) (tmpD (dC (.int 0)))))) (dCall 3 s_q2 (aCons (oSlot 0) (aCons (oSlot 1) (aCons (oSlot 3) aNil)))) (dC .none)))
    (sCons (dSet 6 (dBin mulT (tmpD (dCall 2 s_q11 (aCons (oSlot 0) (aCons (oVal (dDisp Rs.own (aCons (oVal (dC (.int 0))) (aCons (oVal (dC (.int 1))) (aCons (oVal (dC (.int 1))) (aCons (oVal (dC (.int 2))) (aCons (oVal (dC (.int 2))) (aCons (oVal (dC (.int 4))) aNil)))))))) aNil)))) (tmpD (dCB intD (aCons (tmpD (dBin (isD false) (oSlot 5) (tmpD (dC .none)))) aNil)))))
    (sCons (dSet 7 (dCB tupleD (aCons (tmpD (dLc (iRange1 (oSlot 6)) (gN 4) dYes (oVal (dCall 3 s_q2 (aCons (oSlot 0) (aCons (oSlot 1) (aCons (oSlot 3) aNil))))) [4])) aNil)))
    (dRet (dDisp mkT (aCons (oVal (dVar 3)) (aCons (oVal (dCB tupleD (aCons (tmpD (dUn nsetD (oSlot 8))) aNil))) (aCons (oVal (dCB tupleD (aCons (tmpD (dUn nsetD (oSlot 9))) aNil))) (aCons (oVal (dVar 7)) (aCons (oVal (dVar 5)) aNil))))))))))))))
theorem ok_q4 {P : Program} {w : World} {K : Fg} {mg : Str → Option Value} {base : Heap} {k : Nat} {f_q4 : Addr} {fd_q4 : FuncData}  {f_q17 : Addr} {fd_q17 : FuncData} {f_q11 : Addr} {fd_q11 : FuncData} {f_q2 : Addr} {fd_q2 : FuncData} {s_q17 s_q11 s_q2 : DSp} {dsp : DSp}
    (B : Blt mg) (D_q4 : Dfn K mg "_law_draw_query" S_q4 f_q4 fd_q4)    (D_q17 : Dfn K mg "_law_take" S_q17 f_q17 fd_q17) (D_q11 : Dfn K mg "_law_one_of" S_q11 f_q11 fd_q11) (D_q2 : Dfn K mg "_law_draw_column" S_q2 f_q2 fd_q2)  (F_q17 : FnD P w K mg base k f_q17 fd_q17 P_q17 s_q17) (F_q11 : FnD P w K mg base k f_q11 fd_q11 P_q11 s_q11) (F_q2 : FnD P w K mg base k f_q2 fd_q2 P_q2 s_q2)
    (hlaw : ∀ as pn Q, as.length = 3 → dsp as pn Q → t_q4 s_q17 s_q11 s_q2 { nx := fun ρ => Q .none ρ.pn, rt := Q } ⟨startD 13 as, pn⟩) : FnD P w K mg base (k + 1) f_q4 fd_q4 P_q4 dsp :=
  FnD.mkD D_q4 sc_q4 (fun cdv A outer s H E O => (css_cons (cs_set 3 O (ce_callTy cd_tuple (B.get "tuple") b_tuple (ca_cons (ce_lc [(("_law_again" : Str), 4)] O (ci_range1 (B.get "range") (ce_bin od_add ce_int (ce_call F_q17 O D_q17.m D_q17.F.kp (bd_q17 D_q17) (ca_cons (co_slot 0) (ca_cons (co_slot 2) ca_nil))))) (fun _ _ _ _ _ => (cg_n 4 O.blk.nd)) (fun _ _ _ _ _ => cts_nil) (fun _ _ _ _ _ => (co_val (ce_call F_q17 O.blk D_q17.m D_q17.F.kp (bd_q17 D_q17) (ca_cons (co_slot 0) (ca_cons (co_val (ce_callB cd_len (B.get "len") b_len (ca_cons (co_slot 1) ca_nil))) ca_nil)))))) ca_nil)))
    (css_cons (cs_par2 8 9 O (ca_cons (ce_lst ca_nil) (ca_cons (ce_lst ca_nil) ca_nil)))
    (css_cons (cs_for O (ci_range1 (B.get "range") (ce_call F_q11 O D_q11.m D_q11.F.kp (bd_q11 D_q11) (ca_cons (co_slot 0) (ca_cons (co_val (ce_lst (ca_cons (co_val ce_int) (ca_cons (co_val ce_int) (ca_cons (co_val ce_int) (ca_cons (co_val ce_int) (ca_cons (co_val ce_int) (ca_cons (co_val ce_int) ca_nil)))))))) ca_nil)))) (cg_n 4 O.nd) (css_cons (cs_set 10 O (ce_call F_q11 O D_q11.m D_q11.F.kp (bd_q11 D_q11) (ca_cons (co_slot 0) (ca_cons (co_val (ce_lst (ca_cons (co_val ce_str) (ca_cons (co_val ce_str) ca_nil)))) ca_nil))))
    (css_cons (cs_set 11 O (ce_if (ct_cmp (od_eq O) (co_slot 10) ce_str) (ce_call F_q11 O D_q11.m D_q11.F.kp (bd_q11 D_q11) (ca_cons (co_slot 0) (ca_cons (co_val (ce_lst (ca_cons (co_val ce_int) (ca_cons (co_val ce_int) (ca_cons (co_val ce_int) (ca_cons (co_val ce_int) (ca_cons (co_val ce_int) (ca_cons (co_val ce_int) ca_nil)))))))) ca_nil))) (ce_call F_q11 O D_q11.m D_q11.F.kp (bd_q11 D_q11) (ca_cons (co_slot 0) (ca_cons (co_val (ce_lst (ca_cons (co_val ce_int) (ca_cons (co_val ce_int) (ca_cons (co_val ce_int) (ca_cons (co_val ce_int) (ca_cons (co_val ce_int) (ca_cons (co_val ce_int) ca_nil)))))))) ca_nil)))))
    (css_one (cs_expr (ce_append 8 (co_val (ce_tup (ca_cons (co_val (ce_call F_q2 O D_q2.m D_q2.F.kp (bd_q2 D_q2) (ca_cons (co_slot 0) (ca_cons (co_slot 1) (ca_cons (co_slot 3) ca_nil))))) (ca_cons (co_val (ce_var 10)) (ca_cons (co_val (ce_var 11)) ca_nil)))))))))))
    (css_cons (cs_for O (ci_range1 (B.get "range") (ce_call F_q11 O D_q11.m D_q11.F.kp (bd_q11 D_q11) (ca_cons (co_slot 0) (ca_cons (co_val (ce_lst (ca_cons (co_val ce_int) (ca_cons (co_val ce_int) (ca_cons (co_val ce_int) (ca_cons (co_val ce_int) (ca_cons (co_val ce_int) (ca_cons (co_val ce_int) ca_nil)))))))) ca_nil)))) (cg_n 4 O.nd) (css_cons (cs_set 12 O (ce_callB (cd_sorted O) (B.get "sorted") b_sorted (ca_cons (ce_lst (ca_cons (co_val (ce_call F_q2 O D_q2.m D_q2.F.kp (bd_q2 D_q2) (ca_cons (co_slot 0) (ca_cons (co_slot 1) (ca_cons (co_slot 3) ca_nil))))) (ca_cons (co_val (ce_call F_q2 O D_q2.m D_q2.F.kp (bd_q2 D_q2) (ca_cons (co_slot 0) (ca_cons (co_slot 1) (ca_cons (co_slot 3) ca_nil))))) ca_nil))) ca_nil)))
    (css_one (cs_if (ct_cmp od_lt (ce_sub (ce_sub (co_slot 12) ce_int) ce_int) (ce_sub (ce_sub (co_slot 12) ce_int) ce_int)) (css_one (cs_expr (ce_append 9 (co_val (ce_callTy cd_tuple (B.get "tuple") b_tuple (ca_cons (co_slot 12) ca_nil)))))) css_nil))))
    (css_cons (cs_set 5 O (ce_if (ct_cmp (od_eq O) (ce_call F_q17 O D_q17.m D_q17.F.kp (bd_q17 D_q17) (ca_cons (co_slot 0) (ca_cons (co_val ce_int) ca_nil))) ce_int) (ce_call F_q2 O D_q2.m D_q2.F.kp (bd_q2 D_q2) (ca_cons (co_slot 0) (ca_cons (co_slot 1) (ca_cons (co_slot 3) ca_nil)))) ce_non))
    (css_cons (cs_set 6 O (ce_bin od_mulT (ce_call F_q11 O D_q11.m D_q11.F.kp (bd_q11 D_q11) (ca_cons (co_slot 0) (ca_cons (co_val (ce_lst (ca_cons (co_val ce_int) (ca_cons (co_val ce_int) (ca_cons (co_val ce_int) (ca_cons (co_val ce_int) (ca_cons (co_val ce_int) (ca_cons (co_val ce_int) ca_nil)))))))) ca_nil))) (ce_callTy cd_int (B.get "int") b_int (ca_cons (ce_cmp od_is (co_slot 5) ce_non) ca_nil))))
    (css_cons (cs_set 7 O (ce_callTy cd_tuple (B.get "tuple") b_tuple (ca_cons (ce_lc [(("_law_again" : Str), 4)] O (ci_range1 (B.get "range") (co_slot 6)) (fun _ _ _ _ _ => (cg_n 4 O.blk.nd)) (fun _ _ _ _ _ => cts_nil) (fun _ _ _ _ _ => (co_val (ce_call F_q2 O.blk D_q2.m D_q2.F.kp (bd_q2 D_q2) (ca_cons (co_slot 0) (ca_cons (co_slot 1) (ca_cons (co_slot 3) ca_nil))))))) ca_nil)))
    (css_one (cs_ret (ce_tup (ca_cons (co_val (ce_var 3)) (ca_cons (co_val (ce_callTy cd_tuple (B.get "tuple") b_tuple (ca_cons (ce_sortedNest O (B.get "sorted") (B.get "set") (co_slot 8)) ca_nil))) (ca_cons (co_val (ce_callTy cd_tuple (B.get "tuple") b_tuple (ca_cons (ce_sortedNest O (B.get "sorted") (B.get "set") (co_slot 9)) ca_nil))) (ca_cons (co_val (ce_var 7)) (ca_cons (co_val (ce_var 5)) ca_nil)))))))))))))))) hlaw
theorem sc_q15 : FnScope N_q15 P_q15 (defScope S_q15) := ⟨rfl, rfl, rfl, by decide +kernel, rfl, by decide +kernel, by decide +kernel⟩
theorem bd_q15 {K : Fg} {mg : Str → Option Value} {f : Addr} {fd : FuncData} (D : Dfn K mg "_law_sets" S_q15 f fd) : Binds K fd P_q15 [] := D.F.bindsN fun _ _ _ _ _ _ us hl => match us, hl with | [_], _ => rfl
def t_q15 : DS :=
    (sCons (dSet 1 (dCB lenD (aCons (tmpD (dBin ixD (oSlot 0) (tmpD (dC (.int 0))))) aNil)))
    (sCons (dSet 2 (dLc (iRange1 (oSlot 1)) (gN 3) dYes (oVal (dDisp mkT (aCons (oVal (dVar 3)) aNil))) [3]))
    (sCons (dFor (iRange1 (oSlot 1)) (gN 3) (dSet 2 (dBin addD (oSlot 2) (tmpD (dLc (iRange2 (tmpD (dBin addD (oSlot 3) (tmpD (dC (.int 1))))) (oSlot 1)) (gN 4) dYes (oVal (dDisp mkT (aCons (oVal (dVar 3)) (aCons (oVal (dVar 4)) aNil)))) [4])))))
    (dRet (dBin addD (oSlot 2) (tmpD (dBin mulT (tmpD (dDisp Rs.own (aCons (oVal (dRg1 false (oSlot 1))) aNil))) (tmpD (dCB intD (aCons (tmpD (dBin eqD (oSlot 1) (tmpD (dC (.int 3))))) aNil))))))))))
theorem ok_q15 {P : Program} {w : World} {K : Fg} {mg : Str → Option Value} {base : Heap} {k : Nat} {f_q15 : Addr} {fd_q15 : FuncData}    {dsp : DSp}
    (B : Blt mg) (D_q15 : Dfn K mg "_law_sets" S_q15 f_q15 fd_q15)
    (hlaw : ∀ as pn Q, as.length = 1 → dsp as pn Q → t_q15 { nx := fun ρ => Q .none ρ.pn, rt := Q } ⟨startD 5 as, pn⟩) : FnD P w K mg base (k + 1) f_q15 fd_q15 P_q15 dsp :=
  FnD.mkD D_q15 sc_q15 (fun cdv A outer s H E O => (css_cons (cs_set 1 O (ce_callB cd_len (B.get "len") b_len (ca_cons (ce_sub (co_slot 0) ce_int) ca_nil)))
    (css_cons (cs_setLc 2 [(("_law_a" : Str), 3)] O (ci_range1 (B.get "range") (co_slot 1)) (fun _ _ _ _ _ => (cg_n 3 O.blk.nd)) (fun _ _ _ _ _ => cts_nil) (fun _ _ _ _ _ => (co_val (ce_tup (ca_cons (co_val (ce_var 3)) ca_nil)))))
    (css_cons (cs_for O (ci_range1 (B.get "range") (co_slot 1)) (cg_n 3 O.nd) (css_one (cs_set 2 O (ce_bin od_add (co_slot 2) (ce_lc [(("_law_b" : Str), 4)] O (ci_range2 (B.get "range") (ce_bin od_add (co_slot 3) ce_int) (co_slot 1)) (fun _ _ _ _ _ => (cg_n 4 O.blk.nd)) (fun _ _ _ _ _ => cts_nil) (fun _ _ _ _ _ => (co_val (ce_tup (ca_cons (co_val (ce_var 3)) (ca_cons (co_val (ce_var 4)) ca_nil))))))))))
    (css_one (cs_ret (ce_bin od_add (co_slot 2) (ce_bin od_mulT (ce_lst (ca_cons (co_val (ce_tupleRg1 O (B.get "tuple") (B.get "range") (co_slot 1))) ca_nil)) (ce_callTy cd_int (B.get "int") b_int (ca_cons (ce_cmp (od_eq O) (co_slot 1) ce_int) ca_nil)))))))))) hlaw
theorem sc_q5 : FnScope N_q5 P_q5 (defScope S_q5) := ⟨rfl, rfl, rfl, by decide +kernel, rfl, by decide +kernel, by decide +kernel⟩
theorem bd_q5 {K : Fg} {mg : Str → Option Value} {f : Addr} {fd : FuncData} (D : Dfn K mg "_law_value_of" S_q5 f fd) : Binds K fd P_q5 [] := D.F.bindsN fun _ _ _ _ _ _ us hl => match us, hl with | [_, _, _], _ => rfl
def t_q5 : DS :=
    (dRet (dBin ixD (tmpD (dBin ixD (oSlot 1) (tmpD (dTix (oSlot 0) (tmpD (dBin ixD (oSlot 2) (tmpD (dC (.int 0))))))))) (tmpD (dBin ixD (oSlot 2) (tmpD (dC (.int 1)))))))
theorem ok_q5 {P : Program} {w : World} {K : Fg} {mg : Str → Option Value} {base : Heap} {k : Nat} {f_q5 : Addr} {fd_q5 : FuncData}    {dsp : DSp}
    (B : Blt mg) (D_q5 : Dfn K mg "_law_value_of" S_q5 f_q5 fd_q5)
    (hlaw : ∀ as pn Q, as.length = 3 → dsp as pn Q → t_q5 { nx := fun ρ => Q .none ρ.pn, rt := Q } ⟨startD 3 as, pn⟩) : FnD P w K mg base (k + 1) f_q5 fd_q5 P_q5 dsp :=
  FnD.mkD D_q5 sc_q5 (fun cdv A outer s H E O => (css_one (cs_ret (ce_sub (ce_sub (co_slot 1) (ce_tix (co_slot 0) (ce_sub (co_slot 2) ce_int))) (ce_sub (co_slot 2) ce_int))))) hlaw
theorem sc_q14 : FnScope N_q14 P_q14 (defScope S_q14) := ⟨rfl, rfl, rfl, by decide +kernel, rfl, by decide +kernel, by decide +kernel⟩
theorem bd_q14 {K : Fg} {mg : Str → Option Value} {f : Addr} {fd : FuncData} (D : Dfn K mg "_law_holds" S_q14 f fd) : Binds K fd P_q14 [] := D.F.bindsN fun _ _ _ _ _ _ us hl => match us, hl with | [_, _, _], _ => rfl
def t_q14 (s_q5 : DSp) : DS :=
    (sCons (dFor (iSeq (tmpD (dBin ixD (oSlot 0) (tmpD (dC (.int 1)))))) (gT 3 (gCons (gN 3) (gCons (gN 4) (gCons (gN 5) gNil)))) (dIfS (dTst (tmpD (dBin (inD false) (tmpD (dBin ixD (oSlot 3) (tmpD (dC (.int 0))))) (oSlot 1)))) (sCons (dSet 8 (dCall 3 s_q5 (aCons (oSlot 1) (aCons (oSlot 2) (aCons (oSlot 3) aNil)))))
    (dIfS (dIfT (dTst (tmpD (dBin eqD (oSlot 4) (tmpD (dC (.str ("least" : Str))))))) (dTst (tmpD (dBin ltD (oSlot 8) (oSlot 5)))) (dTst (tmpD (dBin gtD (oSlot 8) (oSlot 5))))) (dRet (dC (.bool false))) sNil)) sNil))
    (sCons (dFor (iSeq (tmpD (dBin ixD (oSlot 0) (tmpD (dC (.int 2)))))) (gT 2 (gCons (gN 6) (gCons (gN 7) gNil))) (dIfS (dAnd (dTst (tmpD (dBin (inD false) (tmpD (dBin ixD (oSlot 6) (tmpD (dC (.int 0))))) (oSlot 1)))) (dAnd (dTst (tmpD (dBin (inD false) (tmpD (dBin ixD (oSlot 7) (tmpD (dC (.int 0))))) (oSlot 1)))) (dTst (tmpD (dBin neD (tmpD (dCall 3 s_q5 (aCons (oSlot 1) (aCons (oSlot 2) (aCons (oSlot 6) aNil))))) (tmpD (dCall 3 s_q5 (aCons (oSlot 1) (aCons (oSlot 2) (aCons (oSlot 7) aNil)))))))))) (dRet (dC (.bool false))) sNil))
    (dRet (dC (.bool true)))))
theorem ok_q14 {P : Program} {w : World} {K : Fg} {mg : Str → Option Value} {base : Heap} {k : Nat} {f_q14 : Addr} {fd_q14 : FuncData}  {f_q5 : Addr} {fd_q5 : FuncData} {s_q5 : DSp} {dsp : DSp}
    (B : Blt mg) (D_q14 : Dfn K mg "_law_holds" S_q14 f_q14 fd_q14)    (D_q5 : Dfn K mg "_law_value_of" S_q5 f_q5 fd_q5)  (F_q5 : FnD P w K mg base k f_q5 fd_q5 P_q5 s_q5)
    (hlaw : ∀ as pn Q, as.length = 3 → dsp as pn Q → t_q14 s_q5 { nx := fun ρ => Q .none ρ.pn, rt := Q } ⟨startD 9 as, pn⟩) : FnD P w K mg base (k + 1) f_q14 fd_q14 P_q14 dsp :=
  FnD.mkD D_q14 sc_q14 (fun cdv A outer s H E O => (css_cons (cs_for O (ci_seq (ce_sub (co_slot 0) ce_int)) (cg_t O (cgs_cons (cg_n 3 O.nd) (cgs_cons (cg_n 4 O.nd) (cgs_cons (cg_n 5 O.nd) cgs_nil)))) (css_one (cs_if (ct_cmp (od_in O) (ce_sub (co_slot 3) ce_int) (co_slot 1)) (css_cons (cs_set 8 O (ce_call F_q5 O D_q5.m D_q5.F.kp (bd_q5 D_q5) (ca_cons (co_slot 1) (ca_cons (co_slot 2) (ca_cons (co_slot 3) ca_nil)))))
    (css_one (cs_if (ct_ife (ct_cmp (od_eq O) (co_slot 4) ce_str) (ct_cmp od_lt (co_slot 8) (co_slot 5)) (ct_cmp od_gt (co_slot 8) (co_slot 5))) (css_one (cs_ret ce_bl)) css_nil))) css_nil)))
    (css_cons (cs_for O (ci_seq (ce_sub (co_slot 0) ce_int)) (cg_t O (cgs_cons (cg_n 6 O.nd) (cgs_cons (cg_n 7 O.nd) cgs_nil))) (css_one (cs_if (ct_w (cw_and (ct_cmp (od_in O) (ce_sub (co_slot 6) ce_int) (co_slot 1)) (cw_and (ct_cmp (od_in O) (ce_sub (co_slot 7) ce_int) (co_slot 1)) (cw_and1 (ct_cmp (od_ne O) (ce_call F_q5 O D_q5.m D_q5.F.kp (bd_q5 D_q5) (ca_cons (co_slot 1) (ca_cons (co_slot 2) (ca_cons (co_slot 6) ca_nil)))) (ce_call F_q5 O D_q5.m D_q5.F.kp (bd_q5 D_q5) (ca_cons (co_slot 1) (ca_cons (co_slot 2) (ca_cons (co_slot 7) ca_nil))))))))) (css_one (cs_ret ce_bl)) css_nil)))
    (css_one (cs_ret ce_bl))))) hlaw
theorem sc_q6 : FnScope N_q6 P_q6 (defScope S_q6) := ⟨rfl, rfl, rfl, by decide +kernel, rfl, by decide +kernel, by decide +kernel⟩
theorem bd_q6 {K : Fg} {mg : Str → Option Value} {f : Addr} {fd : FuncData} (D : Dfn K mg "_law_rows_at" S_q6 f fd) : Binds K fd P_q6 [] := D.F.bindsN fun _ _ _ _ _ _ us hl => match us, hl with | [_, _, _, _], _ => rfl
def t_q6 : DS :=
    (dRet (dLc (iZp false (aCons (oSlot 2) (aCons (oSlot 3) aNil))) (gT 2 (gCons (gN 4) (gCons (gN 5) gNil))) dYes (oVal (dBin ixD (tmpD (dBin ixD (oSlot 1) (tmpD (dBin ixD (tmpD (dBin ixD (oSlot 0) (tmpD (dC (.int 0))))) (oSlot 4))))) (oSlot 5))) [4, 5]))
theorem ok_q6 {P : Program} {w : World} {K : Fg} {mg : Str → Option Value} {base : Heap} {k : Nat} {f_q6 : Addr} {fd_q6 : FuncData}    {dsp : DSp}
    (B : Blt mg) (D_q6 : Dfn K mg "_law_rows_at" S_q6 f_q6 fd_q6)
    (hlaw : ∀ as pn Q, as.length = 4 → dsp as pn Q → t_q6 { nx := fun ρ => Q .none ρ.pn, rt := Q } ⟨startD 6 as, pn⟩) : FnD P w K mg base (k + 1) f_q6 fd_q6 P_q6 dsp :=
  FnD.mkD D_q6 sc_q6 (fun cdv A outer s H E O => (css_one (cs_ret (ce_lc [(("_law_one" : Str), 4), (("_law_k" : Str), 5)] O (ci_zip (B.get "zip") (ca_cons (co_slot 2) (ca_cons (co_slot 3) ca_nil))) (fun _ _ _ _ _ => (cg_t O.blk (cgs_cons (cg_n 4 O.blk.nd) (cgs_cons (cg_n 5 O.blk.nd) cgs_nil)))) (fun _ _ _ _ _ => cts_nil) (fun _ _ _ _ _ => (co_val (ce_sub (ce_sub (co_slot 1) (ce_sub (ce_sub (co_slot 0) ce_int) (co_slot 4))) (co_slot 5)))))))) hlaw
theorem sc_q7 : FnScope N_q7 P_q7 (defScope S_q7) := ⟨rfl, rfl, rfl, by decide +kernel, rfl, by decide +kernel, by decide +kernel⟩
theorem bd_q7 {K : Fg} {mg : Str → Option Value} {f : Addr} {fd : FuncData} (D : Dfn K mg "_law_choices" S_q7 f fd) : Binds K fd P_q7 [] := D.F.bindsN fun _ _ _ _ _ _ us hl => match us, hl with | [_, _, _], _ => rfl
def t_q7 (s_q14 s_q6 : DSp) : DS :=
    (sCons (dSet 3 (dDisp Rs.own (aCons (oVal (dDisp mkT aNil)) aNil)))
    (sCons (dFor (iSeq (oFix 2)) (gN 4) (sCons (dSet 5 (dDisp Rs.own aNil))
    (sCons (dFor (iSeq (oFix 3)) (gN 6) (dSet 5 (dBin addD (oSlot 5) (tmpD (dLc (iRange1 (tmpD (dCB lenD (aCons (tmpD (dBin ixD (oSlot 1) (tmpD (dBin ixD (tmpD (dBin ixD (oSlot 0) (tmpD (dC (.int 0))))) (oSlot 4))))) aNil)))) (gN 7) dYes (oVal (dBin addD (oSlot 6) (tmpD (dDisp mkT (aCons (oVal (dVar 7)) aNil))))) [7])))))
    (dSet 3 (dVar 5)))))
    (dRet (dLc (iSeq (oSlot 3)) (gN 6) (dTst (tmpD (dCall 3 s_q14 (aCons (oSlot 0) (aCons (oSlot 2) (aCons (oVal (dCall 4 s_q6 (aCons (oSlot 0) (aCons (oSlot 1) (aCons (oSlot 2) (aCons (oSlot 6) aNil)))))) aNil)))))) (oVal (dVar 6)) [6]))))
theorem ok_q7 {P : Program} {w : World} {K : Fg} {mg : Str → Option Value} {base : Heap} {k : Nat} {f_q7 : Addr} {fd_q7 : FuncData}  {f_q14 : Addr} {fd_q14 : FuncData} {f_q6 : Addr} {fd_q6 : FuncData} {s_q14 s_q6 : DSp} {dsp : DSp}
    (B : Blt mg) (D_q7 : Dfn K mg "_law_choices" S_q7 f_q7 fd_q7)    (D_q14 : Dfn K mg "_law_holds" S_q14 f_q14 fd_q14) (D_q6 : Dfn K mg "_law_rows_at" S_q6 f_q6 fd_q6)  (F_q14 : FnD P w K mg base k f_q14 fd_q14 P_q14 s_q14) (F_q6 : FnD P w K mg base k f_q6 fd_q6 P_q6 s_q6)
    (hlaw : ∀ as pn Q, as.length = 3 → dsp as pn Q → t_q7 s_q14 s_q6 { nx := fun ρ => Q .none ρ.pn, rt := Q } ⟨startD 8 as, pn⟩) : FnD P w K mg base (k + 1) f_q7 fd_q7 P_q7 dsp :=
  FnD.mkD D_q7 sc_q7 (fun cdv A outer s H E O => (css_cons (cs_set 3 O (ce_lst (ca_cons (co_val (ce_tup ca_nil)) ca_nil)))
    (css_cons (cs_for O (ci_seq (co_fix 2)) (cg_n 4 O.nd) (css_cons (cs_set 5 O (ce_lst ca_nil))
    (css_cons (cs_for O (ci_seq (co_fix 3)) (cg_n 6 O.nd) (css_one (cs_set 5 O (ce_bin od_add (co_slot 5) (ce_lc [(("_law_k" : Str), 7)] O (ci_range1 (B.get "range") (ce_callB cd_len (B.get "len") b_len (ca_cons (ce_sub (co_slot 1) (ce_sub (ce_sub (co_slot 0) ce_int) (co_slot 4))) ca_nil))) (fun _ _ _ _ _ => (cg_n 7 O.blk.nd)) (fun _ _ _ _ _ => cts_nil) (fun _ _ _ _ _ => (co_val (ce_bin od_add (co_slot 6) (ce_tup (ca_cons (co_val (ce_var 7)) ca_nil))))))))))
    (css_one (cs_set 3 O (ce_var 5))))))
    (css_one (cs_ret (ce_lc [(("_law_places" : Str), 6)] O (ci_seq (co_slot 3)) (fun _ _ _ _ _ => (cg_n 6 O.blk.nd)) (fun _ _ _ _ _ => (cts_one (ct_val (ce_call F_q14 O.blk D_q14.m D_q14.F.kp (bd_q14 D_q14) (ca_cons (co_slot 0) (ca_cons (co_slot 2) (ca_cons (co_val (ce_call F_q6 O.blk D_q6.m D_q6.F.kp (bd_q6 D_q6) (ca_cons (co_slot 0) (ca_cons (co_slot 1) (ca_cons (co_slot 2) (ca_cons (co_slot 6) ca_nil)))))) ca_nil))))))) (fun _ _ _ _ _ => (co_val (ce_var 6))))))))) hlaw
theorem sc_q13 : FnScope N_q13 P_q13 (defScope S_q13) := ⟨rfl, rfl, rfl, by decide +kernel, rfl, by decide +kernel, by decide +kernel⟩
theorem bd_q13 {K : Fg} {mg : Str → Option Value} {f : Addr} {fd : FuncData} (D : Dfn K mg "_law_joined" S_q13 f fd) : Binds K fd P_q13 [] := D.F.bindsN fun _ _ _ _ _ _ us hl => match us, hl with | [_], _ => rfl
def t_q13 : DS :=
    (sCons (dSet 1 (dDisp mkT aNil))
    (sCons (dFor (iSeq (oFix 0)) (gN 2) (dSet 1 (dBin addD (oSlot 1) (oSlot 2))))
    (dRet (dVar 1))))
theorem ok_q13 {P : Program} {w : World} {K : Fg} {mg : Str → Option Value} {base : Heap} {k : Nat} {f_q13 : Addr} {fd_q13 : FuncData}    {dsp : DSp}
    (B : Blt mg) (D_q13 : Dfn K mg "_law_joined" S_q13 f_q13 fd_q13)
    (hlaw : ∀ as pn Q, as.length = 1 → dsp as pn Q → t_q13 { nx := fun ρ => Q .none ρ.pn, rt := Q } ⟨startD 3 as, pn⟩) : FnD P w K mg base (k + 1) f_q13 fd_q13 P_q13 dsp :=
  FnD.mkD D_q13 sc_q13 (fun cdv A outer s H E O => (css_cons (cs_set 1 O (ce_tup ca_nil))
    (css_cons (cs_for O (ci_seq (co_fix 0)) (cg_n 2 O.nd) (css_one (cs_set 1 O (ce_bin od_add (co_slot 1) (co_slot 2)))))
    (css_one (cs_ret (ce_var 1)))))) hlaw
theorem sc_q9 : FnScope N_q9 P_q9 (defScope S_q9) := ⟨rfl, rfl, rfl, by decide +kernel, rfl, by decide +kernel, by decide +kernel⟩
theorem bd_q9 {K : Fg} {mg : Str → Option Value} {f : Addr} {fd : FuncData} (D : Dfn K mg "_law_answer" S_q9 f fd) : Binds K fd P_q9 [] := D.F.bindsN fun _ _ _ _ _ _ us hl => match us, hl with | [_, _], _ => rfl
def t_q9 (s_q7 s_q6 s_q5 : DSp) : DS :=
    (sCons (dSet 2 (dRg1 false (tmpD (dCB lenD (aCons (tmpD (dBin ixD (oSlot 0) (tmpD (dC (.int 0))))) aNil)))))
    (sCons (dSet 3 (dLc (iSeq (tmpD (dCall 3 s_q7 (aCons (oSlot 0) (aCons (oSlot 1) (aCons (oSlot 2) aNil)))))) (gN 5) dYes (oVal (dCall 4 s_q6 (aCons (oSlot 0) (aCons (oSlot 1) (aCons (oSlot 2) (aCons (oSlot 5) aNil)))))) [5]))
    (sCons (dIfS (dTst (tmpD (dBin (isD false) (tmpD (dBin ixD (oSlot 0) (tmpD (dC (.int 4))))) (tmpD (dC .none))))) (dRet (dCB sortedT (aCons (tmpD (dLc (iSeq (oSlot 3)) (gN 6) dYes (oVal (dCB tupleD (aCons (tmpD (dLc (iSeq (tmpD (dBin ixD (oSlot 0) (tmpD (dC (.int 3)))))) (gN 8) dYes (oVal (dCall 3 s_q5 (aCons (oSlot 2) (aCons (oSlot 6) (aCons (oSlot 8) aNil))))) [8])) aNil))) [6])) aNil))) sNil)
    (sCons (dSet 4 (dLc (iSeq (oSlot 3)) (gN 6) dYes (oVal (dCall 3 s_q5 (aCons (oSlot 2) (aCons (oSlot 6) (aCons (oVal (dBin ixD (oSlot 0) (tmpD (dC (.int 4))))) aNil))))) [6]))
    (dRet (dLc (iSeq (tmpD (dUn ssetD (oSlot 4)))) (gN 7) dYes (oVal (dDisp mkT (aCons (oVal (dVar 7)) (aCons (oVal (dCnt (oSlot 4) (oSlot 7))) aNil)))) [7]))))))
theorem ok_q9 {P : Program} {w : World} {K : Fg} {mg : Str → Option Value} {base : Heap} {k : Nat} {f_q9 : Addr} {fd_q9 : FuncData}  {f_q7 : Addr} {fd_q7 : FuncData} {f_q6 : Addr} {fd_q6 : FuncData} {f_q5 : Addr} {fd_q5 : FuncData} {s_q7 s_q6 s_q5 : DSp} {dsp : DSp}
    (B : Blt mg) (D_q9 : Dfn K mg "_law_answer" S_q9 f_q9 fd_q9)    (D_q7 : Dfn K mg "_law_choices" S_q7 f_q7 fd_q7) (D_q6 : Dfn K mg "_law_rows_at" S_q6 f_q6 fd_q6) (D_q5 : Dfn K mg "_law_value_of" S_q5 f_q5 fd_q5)  (F_q7 : FnD P w K mg base k f_q7 fd_q7 P_q7 s_q7) (F_q6 : FnD P w K mg base k f_q6 fd_q6 P_q6 s_q6) (F_q5 : FnD P w K mg base k f_q5 fd_q5 P_q5 s_q5)
    (hlaw : ∀ as pn Q, as.length = 2 → dsp as pn Q → t_q9 s_q7 s_q6 s_q5 { nx := fun ρ => Q .none ρ.pn, rt := Q } ⟨startD 9 as, pn⟩) : FnD P w K mg base (k + 1) f_q9 fd_q9 P_q9 dsp :=
  FnD.mkD D_q9 sc_q9 (fun cdv A outer s H E O => (css_cons (cs_set 2 O (ce_tupleRg1 O (B.get "tuple") (B.get "range") (ce_callB cd_len (B.get "len") b_len (ca_cons (ce_sub (co_slot 0) ce_int) ca_nil))))
    (css_cons (cs_setLc 3 [(("_law_places" : Str), 5)] O (ci_seq (ce_call F_q7 O D_q7.m D_q7.F.kp (bd_q7 D_q7) (ca_cons (co_slot 0) (ca_cons (co_slot 1) (ca_cons (co_slot 2) ca_nil))))) (fun _ _ _ _ _ => (cg_n 5 O.blk.nd)) (fun _ _ _ _ _ => cts_nil) (fun _ _ _ _ _ => (co_val (ce_call F_q6 O.blk D_q6.m D_q6.F.kp (bd_q6 D_q6) (ca_cons (co_slot 0) (ca_cons (co_slot 1) (ca_cons (co_slot 2) (ca_cons (co_slot 5) ca_nil))))))))
    (css_cons (cs_if (ct_cmp od_is (ce_sub (co_slot 0) ce_int) ce_non) (css_one (cs_ret (ce_callB (cd_sortT O) (B.get "sorted") b_sorted (ca_cons (ce_lc [(("_law_row" : Str), 6)] O (ci_seq (co_slot 3)) (fun _ _ _ _ _ => (cg_n 6 O.blk.nd)) (fun _ _ _ _ _ => cts_nil) (fun _ _ _ _ _ => (co_val (ce_callTy cd_tuple (B.get "tuple") b_tuple (ca_cons (ce_lc [(("_law_column" : Str), 8)] O.blk (ci_seq (ce_sub (co_slot 0) ce_int)) (fun _ _ _ _ _ => (cg_n 8 O.blk.blk.nd)) (fun _ _ _ _ _ => cts_nil) (fun _ _ _ _ _ => (co_val (ce_call F_q5 O.blk.blk D_q5.m D_q5.F.kp (bd_q5 D_q5) (ca_cons (co_slot 2) (ca_cons (co_slot 6) (ca_cons (co_slot 8) ca_nil))))))) ca_nil))))) ca_nil)))) css_nil)
    (css_cons (cs_set 4 O (ce_lc [(("_law_row" : Str), 6)] O (ci_seq (co_slot 3)) (fun _ _ _ _ _ => (cg_n 6 O.blk.nd)) (fun _ _ _ _ _ => cts_nil) (fun _ _ _ _ _ => (co_val (ce_call F_q5 O.blk D_q5.m D_q5.F.kp (bd_q5 D_q5) (ca_cons (co_slot 2) (ca_cons (co_slot 6) (ca_cons (co_val (ce_sub (co_slot 0) ce_int)) ca_nil))))))))
    (css_one (cs_ret (ce_lc [(("_law_value" : Str), 7)] O (ci_seq (ce_sortedSet O (B.get "sorted") (B.get "set") (co_slot 4))) (fun _ _ _ _ _ => (cg_n 7 O.blk.nd)) (fun _ _ _ _ _ => cts_nil) (fun _ _ _ _ _ => (co_val (ce_tup (ca_cons (co_val (ce_var 7)) (ca_cons (co_val (ce_count O.blk (co_slot 4) (co_slot 7))) ca_nil))))))))))))) hlaw
theorem sc_law : FnScope N_law P_law (defScope S_law) := ⟨rfl, rfl, rfl, by decide +kernel, rfl, by decide +kernel, by decide +kernel⟩
def u1_2 (s_q1 : DSp) (s_q4 : DSp) (s_q0 : DSp) (s_q15 : DSp) (s_q7 : DSp) (s_q10 : DSpO) (s_q18 : DSp) (s_q6 : DSp) (s_q23 : DSp) (s_q13 : DSp) (s_q9 : DSp) (s_q22 : DSpO) : DS :=
    (dExpr (dAppend 11 (oVal (dC .none))))
def u1_1 (s_q1 : DSp) (s_q4 : DSp) (s_q0 : DSp) (s_q15 : DSp) (s_q7 : DSp) (s_q10 : DSpO) (s_q18 : DSp) (s_q6 : DSp) (s_q23 : DSp) (s_q13 : DSp) (s_q9 : DSp) (s_q22 : DSpO) : DS :=
    (sCons (dIfS (dNot (dTst (tmpD (dCall 2 s_q18 (aCons (oSlot 11) (aCons (oSlot 8) aNil)))))) (dRet (dC (.bool false))) sNil)
    (u1_2 s_q1 s_q4 s_q0 s_q15 s_q7 s_q10 s_q18 s_q6 s_q23 s_q13 s_q9 s_q22))
def u2_2 (s_q1 : DSp) (s_q4 : DSp) (s_q0 : DSp) (s_q15 : DSp) (s_q7 : DSp) (s_q10 : DSpO) (s_q18 : DSp) (s_q6 : DSp) (s_q23 : DSp) (s_q13 : DSp) (s_q9 : DSp) (s_q22 : DSpO) : DS :=
    (dFor (iSeq (tmpD (dSl (oSlot 8) pNone (pSome (tmpD (dC (.int 6))))))) (gN 10) (sCons (dSet 12 (dCall 4 s_q6 (aCons (oSlot 4) (aCons (oSlot 5) (aCons (oSlot 7) (aCons (oSlot 10) aNil))))))
    (dIfS (dNot (dTst (tmpD (dCall 2 s_q18 (aCons (oVal (dCall 4 s_q23 (aCons (oSlot 4) (aCons (oSlot 5) (aCons (oSlot 7) (aCons (oSlot 10) aNil)))))) (aCons (oVal (dCall 1 s_q13 (aCons (oSlot 12) aNil))) aNil)))))) (dRet (dC (.bool false))) sNil)))
def u2_1 (s_q1 : DSp) (s_q4 : DSp) (s_q0 : DSp) (s_q15 : DSp) (s_q7 : DSp) (s_q10 : DSpO) (s_q18 : DSp) (s_q6 : DSp) (s_q23 : DSp) (s_q13 : DSp) (s_q9 : DSp) (s_q22 : DSpO) : DS :=
    (sCons (dFor (iRange1 (tmpD (dC (.int 2)))) (gN 9) (sCons (dSet 11 (dCallO 3 s_q10 (aCons (oSlot 4) (aCons (oSlot 5) (aCons (oSlot 7) aNil)))))
    (u1_1 s_q1 s_q4 s_q0 s_q15 s_q7 s_q10 s_q18 s_q6 s_q23 s_q13 s_q9 s_q22)))
    (u2_2 s_q1 s_q4 s_q0 s_q15 s_q7 s_q10 s_q18 s_q6 s_q23 s_q13 s_q9 s_q22))
def u3_2 (s_q1 : DSp) (s_q4 : DSp) (s_q0 : DSp) (s_q15 : DSp) (s_q7 : DSp) (s_q10 : DSpO) (s_q18 : DSp) (s_q6 : DSp) (s_q23 : DSp) (s_q13 : DSp) (s_q9 : DSp) (s_q22 : DSpO) : DS :=
    (dExpr (dAppend 11 (oVal (dC .none))))
def u3_1 (s_q1 : DSp) (s_q4 : DSp) (s_q0 : DSp) (s_q15 : DSp) (s_q7 : DSp) (s_q10 : DSpO) (s_q18 : DSp) (s_q6 : DSp) (s_q23 : DSp) (s_q13 : DSp) (s_q9 : DSp) (s_q22 : DSpO) : DS :=
    (sCons (dIfS (dNot (dTst (tmpD (dCall 2 s_q18 (aCons (oSlot 11) (aCons (oSlot 8) aNil)))))) (dRet (dC (.bool false))) sNil)
    (u3_2 s_q1 s_q4 s_q0 s_q15 s_q7 s_q10 s_q18 s_q6 s_q23 s_q13 s_q9 s_q22))
def u4_7 (s_q1 : DSp) (s_q4 : DSp) (s_q0 : DSp) (s_q15 : DSp) (s_q7 : DSp) (s_q10 : DSpO) (s_q18 : DSp) (s_q6 : DSp) (s_q23 : DSp) (s_q13 : DSp) (s_q9 : DSp) (s_q22 : DSpO) : DS :=
    (dIfS (dTst (tmpD (dBin neD (tmpD (dCB reprZ (aCons (tmpD (dDisp mkT (aCons (oVal (dVar 4)) (aCons (oVal (dVar 5)) aNil)))) aNil))) (oSlot 6)))) (dRet (dC (.bool false))) sNil)
def u4_6 (s_q1 : DSp) (s_q4 : DSp) (s_q0 : DSp) (s_q15 : DSp) (s_q7 : DSp) (s_q10 : DSpO) (s_q18 : DSp) (s_q6 : DSp) (s_q23 : DSp) (s_q13 : DSp) (s_q9 : DSp) (s_q22 : DSpO) : DS :=
    (sCons (dFor (iRange1 (tmpD (dC (.int 2)))) (gN 9) (sCons (dSet 11 (dCallO 2 s_q22 (aCons (oSlot 4) (aCons (oSlot 5) aNil))))
    (u3_1 s_q1 s_q4 s_q0 s_q15 s_q7 s_q10 s_q18 s_q6 s_q23 s_q13 s_q9 s_q22)))
    (u4_7 s_q1 s_q4 s_q0 s_q15 s_q7 s_q10 s_q18 s_q6 s_q23 s_q13 s_q9 s_q22))
def u4_5 (s_q1 : DSp) (s_q4 : DSp) (s_q0 : DSp) (s_q15 : DSp) (s_q7 : DSp) (s_q10 : DSpO) (s_q18 : DSp) (s_q6 : DSp) (s_q23 : DSp) (s_q13 : DSp) (s_q9 : DSp) (s_q22 : DSpO) : DS :=
    (sCons (dSet 8 (dCall 2 s_q9 (aCons (oSlot 4) (aCons (oSlot 5) aNil))))
    (u4_6 s_q1 s_q4 s_q0 s_q15 s_q7 s_q10 s_q18 s_q6 s_q23 s_q13 s_q9 s_q22))
def u4_4 (s_q1 : DSp) (s_q4 : DSp) (s_q0 : DSp) (s_q15 : DSp) (s_q7 : DSp) (s_q10 : DSpO) (s_q18 : DSp) (s_q6 : DSp) (s_q23 : DSp) (s_q13 : DSp) (s_q9 : DSp) (s_q22 : DSpO) : DS :=
    (sCons (dFor (iSeq (tmpD (dCall 1 s_q15 (aCons (oSlot 4) aNil)))) (gN 7) (sCons (dSet 8 (dCall 3 s_q7 (aCons (oSlot 4) (aCons (oSlot 5) (aCons (oSlot 7) aNil)))))
    (u2_1 s_q1 s_q4 s_q0 s_q15 s_q7 s_q10 s_q18 s_q6 s_q23 s_q13 s_q9 s_q22)))
    (u4_5 s_q1 s_q4 s_q0 s_q15 s_q7 s_q10 s_q18 s_q6 s_q23 s_q13 s_q9 s_q22))
def u4_3 (s_q1 : DSp) (s_q4 : DSp) (s_q0 : DSp) (s_q15 : DSp) (s_q7 : DSp) (s_q10 : DSpO) (s_q18 : DSp) (s_q6 : DSp) (s_q23 : DSp) (s_q13 : DSp) (s_q9 : DSp) (s_q22 : DSpO) : DS :=
    (sCons (dSet 6 (dCB reprZ (aCons (tmpD (dDisp mkT (aCons (oVal (dVar 4)) (aCons (oVal (dVar 5)) aNil)))) aNil)))
    (u4_4 s_q1 s_q4 s_q0 s_q15 s_q7 s_q10 s_q18 s_q6 s_q23 s_q13 s_q9 s_q22))
def u4_2 (s_q1 : DSp) (s_q4 : DSp) (s_q0 : DSp) (s_q15 : DSp) (s_q7 : DSp) (s_q10 : DSpO) (s_q18 : DSp) (s_q6 : DSp) (s_q23 : DSp) (s_q13 : DSp) (s_q9 : DSp) (s_q22 : DSpO) : DS :=
    (sCons (dSet 5 (dCall 3 s_q0 (aCons (oSlot 1) (aCons (oSlot 3) (aCons (oVal (dBin ixD (tmpD (dDisp Rs.own (aCons (oVal (dC (.int 10))) (aCons (oVal (dC (.int 6))) (aCons (oVal (dC (.int 4))) aNil))))) (tmpD (dBin subD (tmpD (dCB lenD (aCons (tmpD (dBin ixD (oSlot 4) (tmpD (dC (.int 0))))) aNil))) (tmpD (dC (.int 1))))))) aNil)))))
    (u4_3 s_q1 s_q4 s_q0 s_q15 s_q7 s_q10 s_q18 s_q6 s_q23 s_q13 s_q9 s_q22))
def u4_1 (s_q1 : DSp) (s_q4 : DSp) (s_q0 : DSp) (s_q15 : DSp) (s_q7 : DSp) (s_q10 : DSpO) (s_q18 : DSp) (s_q6 : DSp) (s_q23 : DSp) (s_q13 : DSp) (s_q9 : DSp) (s_q22 : DSpO) : DS :=
    (sCons (dSet 4 (dCall 3 s_q4 (aCons (oSlot 1) (aCons (oSlot 3) (aCons (oVal (dC (.int 3))) aNil)))))
    (u4_2 s_q1 s_q4 s_q0 s_q15 s_q7 s_q10 s_q18 s_q6 s_q23 s_q13 s_q9 s_q22))
def t_law (s_q1 : DSp) (s_q4 : DSp) (s_q0 : DSp) (s_q15 : DSp) (s_q7 : DSp) (s_q10 : DSpO) (s_q18 : DSp) (s_q6 : DSp) (s_q23 : DSp) (s_q13 : DSp) (s_q9 : DSp) (s_q22 : DSpO) : DS :=
    (sCons (dFor (iRange1 (tmpD (dC (.int 6)))) (gN 2) (sCons (dSet 3 (dCall 1 s_q1 (aCons (oSlot 1) aNil)))
    (u4_1 s_q1 s_q4 s_q0 s_q15 s_q7 s_q10 s_q18 s_q6 s_q23 s_q13 s_q9 s_q22)))
    (dRet (dC (.bool true))))
theorem ok_law {P : Program} {w : World} {K : Fg} {mg : Str → Option Value} {base : Heap} {k : Nat} {f_law : Addr} {fd_law : FuncData} {f_q19 : Addr} {fd_q19 : FuncData} {f_q1 : Addr} {fd_q1 : FuncData} {f_q4 : Addr} {fd_q4 : FuncData} {f_q0 : Addr} {fd_q0 : FuncData} {f_q15 : Addr} {fd_q15 : FuncData} {f_q7 : Addr} {fd_q7 : FuncData} {f_q10 : Addr} {fd_q10 : FuncData} {f_q18 : Addr} {fd_q18 : FuncData} {f_q6 : Addr} {fd_q6 : FuncData} {f_q23 : Addr} {fd_q23 : FuncData} {f_q13 : Addr} {fd_q13 : FuncData} {f_q9 : Addr} {fd_q9 : FuncData} {f_q22 : Addr} {fd_q22 : FuncData} {s_q19 : DSp} {s_q1 : DSp} {s_q4 : DSp} {s_q0 : DSp} {s_q15 : DSp} {s_q7 : DSp} {s_q10 : DSpO} {s_q18 : DSp} {s_q6 : DSp} {s_q23 : DSp} {s_q13 : DSp} {s_q9 : DSp} {s_q22 : DSpO}
    (B : Blt mg) (D_law : Dfn K mg "law" S_law f_law fd_law)   (D_q19 : Dfn K mg "_law_open" S_q19 f_q19 fd_q19) (D_q1 : Dfn K mg "_law_draw_scheme" S_q1 f_q1 fd_q1) (D_q4 : Dfn K mg "_law_draw_query" S_q4 f_q4 fd_q4) (D_q0 : Dfn K mg "_law_draw_database" S_q0 f_q0 fd_q0) (D_q15 : Dfn K mg "_law_sets" S_q15 f_q15 fd_q15) (D_q7 : Dfn K mg "_law_choices" S_q7 f_q7 fd_q7) (D_q10 : Dfn K mg "choices_of" S_q10 f_q10 fd_q10) (D_q18 : Dfn K mg "_law_same" S_q18 f_q18 fd_q18) (D_q6 : Dfn K mg "_law_rows_at" S_q6 f_q6 fd_q6) (D_q23 : Dfn K mg "joined" S_q23 f_q23 fd_q23) (D_q13 : Dfn K mg "_law_joined" S_q13 f_q13 fd_q13) (D_q9 : Dfn K mg "_law_answer" S_q9 f_q9 fd_q9) (D_q22 : Dfn K mg "answer" S_q22 f_q22 fd_q22)  (F_q19 : FnD P w K mg base k f_q19 fd_q19 P_q19 s_q19) (F_q1 : FnD P w K mg base k f_q1 fd_q1 P_q1 s_q1) (F_q4 : FnD P w K mg base k f_q4 fd_q4 P_q4 s_q4) (F_q0 : FnD P w K mg base k f_q0 fd_q0 P_q0 s_q0) (F_q15 : FnD P w K mg base k f_q15 fd_q15 P_q15 s_q15) (F_q7 : FnD P w K mg base k f_q7 fd_q7 P_q7 s_q7) (F_q10 : FnO P w K mg base k f_q10 fd_q10 P_q10 s_q10) (F_q18 : FnD P w K mg base k f_q18 fd_q18 P_q18 s_q18) (F_q6 : FnD P w K mg base k f_q6 fd_q6 P_q6 s_q6) (F_q23 : FnD P w K mg base k f_q23 fd_q23 P_q23 s_q23) (F_q13 : FnD P w K mg base k f_q13 fd_q13 P_q13 s_q13) (F_q9 : FnD P w K mg base k f_q9 fd_q9 P_q9 s_q9) (F_q22 : FnO P w K mg base k f_q22 fd_q22 P_q22 s_q22)
    (hopen : ∀ (ns : List Int) (Q : D → Option Pen → Prop), (∀ cells, Q (penL cells) none) → s_q19 [.scr ns] none Q)
    (hlaw : ∀ cells : List Int, t_law s_q1 s_q4 s_q0 s_q15 s_q7 s_q10 s_q18 s_q6 s_q23 s_q13 s_q9 s_q22 { nx := fun _ => False, rt := fun d _ => d = .bool true } ⟨law0 13, some ⟨cells, 0, 0⟩⟩) : FnG P w K mg base CX0 (k + 1) f_law fd_law P_law (spLaw K) :=
  law_mk D_law sc_law rfl (by decide) (fun cdv A outer s H E O => (cs_set 1 O (ce_call F_q19 O D_q19.m D_q19.F.kp (bd_q19 D_q19) (ca_cons (co_slot 0) ca_nil)))) (fun cdv A outer s H E O => (css_cons (cs_for O (ci_range1 (B.get "range") ce_int) (cg_n 2 O.nd) (css_cons (cs_set 3 O (ce_call F_q1 O D_q1.m D_q1.F.kp (bd_q1 D_q1) (ca_cons (co_slot 1) ca_nil)))
    (css_cons (cs_set 4 O (ce_call F_q4 O D_q4.m D_q4.F.kp (bd_q4 D_q4) (ca_cons (co_slot 1) (ca_cons (co_slot 3) (ca_cons (co_val ce_int) ca_nil)))))
    (css_cons (cs_set 5 O (ce_call F_q0 O D_q0.m D_q0.F.kp (bd_q0 D_q0) (ca_cons (co_slot 1) (ca_cons (co_slot 3) (ca_cons (co_val (ce_sub (ce_lst (ca_cons (co_val ce_int) (ca_cons (co_val ce_int) (ca_cons (co_val ce_int) ca_nil)))) (ce_bin od_sub (ce_callB cd_len (B.get "len") b_len (ca_cons (ce_sub (co_slot 4) ce_int) ca_nil)) ce_int))) ca_nil)))))
    (css_cons (cs_set 6 O (ce_callB (cd_reprZ O) (B.get "repr") b_repr (ca_cons (ce_tup (ca_cons (co_val (ce_var 4)) (ca_cons (co_val (ce_var 5)) ca_nil))) ca_nil)))
    (css_cons (cs_for O (ci_seq (ce_call F_q15 O D_q15.m D_q15.F.kp (bd_q15 D_q15) (ca_cons (co_slot 4) ca_nil))) (cg_n 7 O.nd) (css_cons (cs_set 8 O (ce_call F_q7 O D_q7.m D_q7.F.kp (bd_q7 D_q7) (ca_cons (co_slot 4) (ca_cons (co_slot 5) (ca_cons (co_slot 7) ca_nil)))))
    (css_cons (cs_for O (ci_range1 (B.get "range") ce_int) (cg_n 9 O.nd) (css_cons (cs_set 11 O (ce_callO F_q10 O D_q10.m D_q10.F.kp (bd_q10 D_q10) (ca_cons (co_slot 4) (ca_cons (co_slot 5) (ca_cons (co_slot 7) ca_nil)))))
    (css_cons (cs_if (ct_not (ct_val (ce_call F_q18 O D_q18.m D_q18.F.kp (bd_q18 D_q18) (ca_cons (co_slot 11) (ca_cons (co_slot 8) ca_nil))))) (css_one (cs_ret ce_bl)) css_nil)
    (css_one (cs_expr (ce_append 11 (co_val ce_non)))))))
    (css_one (cs_for O (ci_seq (ce_slice (co_slot 8) cp_none (cp_some ce_int))) (cg_n 10 O.nd) (css_cons (cs_set 12 O (ce_call F_q6 O D_q6.m D_q6.F.kp (bd_q6 D_q6) (ca_cons (co_slot 4) (ca_cons (co_slot 5) (ca_cons (co_slot 7) (ca_cons (co_slot 10) ca_nil))))))
    (css_one (cs_if (ct_not (ct_val (ce_call F_q18 O D_q18.m D_q18.F.kp (bd_q18 D_q18) (ca_cons (co_val (ce_call F_q23 O D_q23.m D_q23.F.kp (bd_q23 D_q23) (ca_cons (co_slot 4) (ca_cons (co_slot 5) (ca_cons (co_slot 7) (ca_cons (co_slot 10) ca_nil)))))) (ca_cons (co_val (ce_call F_q13 O D_q13.m D_q13.F.kp (bd_q13 D_q13) (ca_cons (co_slot 12) ca_nil))) ca_nil))))) (css_one (cs_ret ce_bl)) css_nil))))))))
    (css_cons (cs_set 8 O (ce_call F_q9 O D_q9.m D_q9.F.kp (bd_q9 D_q9) (ca_cons (co_slot 4) (ca_cons (co_slot 5) ca_nil))))
    (css_cons (cs_for O (ci_range1 (B.get "range") ce_int) (cg_n 9 O.nd) (css_cons (cs_set 11 O (ce_callO F_q22 O D_q22.m D_q22.F.kp (bd_q22 D_q22) (ca_cons (co_slot 4) (ca_cons (co_slot 5) ca_nil))))
    (css_cons (cs_if (ct_not (ct_val (ce_call F_q18 O D_q18.m D_q18.F.kp (bd_q18 D_q18) (ca_cons (co_slot 11) (ca_cons (co_slot 8) ca_nil))))) (css_one (cs_ret ce_bl)) css_nil)
    (css_one (cs_expr (ce_append 11 (co_val ce_non)))))))
    (css_one (cs_if (ct_cmp (od_ne O) (ce_callB (cd_reprZ O) (B.get "repr") b_repr (ca_cons (ce_tup (ca_cons (co_val (ce_var 4)) (ca_cons (co_val (ce_var 5)) ca_nil))) ca_nil)) (co_slot 6)) (css_one (cs_ret ce_bl)) css_nil))))))))))
    (css_one (cs_ret ce_bl)))) hopen hlaw
end K84
namespace K84
open PySem PySem.Spec PyProof.Rows L2 Dk
theorem p_value_in (as : List Dk.Arg) (pn : Option Pen) (Q : D → Option Pen → Prop) (h : spValIn as pn Q) : t_q16 { nx := fun ρ => Q .none ρ.pn, rt := Q } ⟨startD 3 as, pn⟩ := by
  obtain ⟨so, rows, c, rfl, hm, hi, c0, c1, h⟩ := h
  unfold t_q16
  have q1 := map_atQ (g := tupI) (getD_get (d := []) hi)
  have q2 := gI_atQ c0 c1
  rw [List.getD_eq_getElem?_getD] at q2
  simp -implicitDefEqProofs [tupI, colD]
  refine ⟨rfl, hm, ?_⟩
  rw [q1]
  simp -implicitDefEqProofs [tupI]
  rw [q2]
  exact h
theorem p_bound_holds (as : List Dk.Arg) (pn : Option Pen) (Q : D → Option Pen → Prop) (h : spBndH as pn Q) : t_q8 { nx := fun ρ => Q .none ρ.pn, rt := Q } ⟨startD 2 as, pn⟩ := by
  obtain ⟨⟨c, w, n⟩, v, rfl, hw, h⟩ := h
  unfold t_q8
  simp -implicitDefEqProofs [bndD, eqOk_str, eqv_strQ]
  unfold bndT at h
  split
  · rename_i e
    rw [if_pos e] at h
    exact h
  · rename_i e
    rw [if_neg e] at h
    exact h
end K84
namespace K84
open PySem PySem.Spec PyProof.Rows L2 Dk
theorem p_all_hold (as : List Dk.Arg) (pn : Option Pen) (Q : D → Option Pen → Prop) (h : spHold as pn Q) : t_q20 spBndH spValIn { nx := fun ρ => Q .none ρ.pn, rt := Q } ⟨startD 6 as, pn⟩ := by
  obtain ⟨sc, most, q, db, so, pl, rfl, Z, S, P, h⟩ := h
  have fit : ∀ c, ColOk sc q.occ c → c.1 ∈ so → _ := fun c hc hm => val_fit Z S P hc hm
  have hz : sizeLine = 16777216 := sizeLine_eq
  have hb4 := Z.q.b4
  have he3 := Z.q.e3
  generalize rowsQ q db so pl = rows at fit h
  unfold t_q20
  simp -implicitDefEqProofs [qyD, tupI]
  refine ⟨rfl, fun _ => ?_⟩
  refine forW_inv (fun i ρ => ∃ x3, ρ = ⟨[.val (qyD q), .val (tupI so), .val (.list (rows.map tupI)), x3, .un, .un], pn⟩ ∧ ∀ b ∈ q.bnd.take i, bOkQ so rows b = true) ?_ ?_ ⟨_, rfl, by simp⟩
  · rintro i d ρ hi ⟨x3, rfl, hp⟩ N hN
    rw [List.getElem?_map] at hi
    obtain ⟨b, hb, rfl⟩ := Option.map_eq_some_iff.mp hi
    have hbm := List.mem_of_getElem? hb
    have hbo := Z.q.b b hbm
    have no : bOkQ so rows b = false → Q (.bool false) pn := fun e => by
      have : holdQ q so rows = false := by
        unfold holdQ
        rw [Bool.and_eq_false_iff]
        exact .inl (List.all_eq_false.mpr ⟨b, hbm, by rw [e]; exact Bool.false_ne_true⟩)
      rwa [this] at h
    have yes : ∀ x3, bOkQ so rows b = true → N ⟨[.val (qyD q), .val (tupI so), .val (.list (rows.map tupI)), x3, .un, .un], pn⟩ := fun x3 e => hN _ ⟨_, rfl, fun b' hb' => by
      rw [take_snocA hb] at hb'
      rcases List.mem_append.mp hb' with z | z
      · exact hp b' z
      · rw [List.mem_singleton.mp z]; exact e⟩
    simp -implicitDefEqProofs [bndD, colD, tupI]
    split
    · rename_i hm
      obtain ⟨f1, f2, f3⟩ := fit b.1 hbo.1 hm
      refine ⟨so, rows, b.1, rfl, hm, f1, f2, f3, b, _, rfl, hbo.2.1, ?_⟩
      simp -implicitDefEqProofs
      have e : bOkQ so rows b = bndT b (valQ so rows b.1) := by unfold bOkQ; rw [decide_eq_true hm]; rfl
      split
      · exact yes _ (by rw [e]; assumption)
      · rename_i hn
        exact no (by rw [e]; simpa using hn)
    · rename_i hm
      exact yes _ (by unfold bOkQ; rw [decide_eq_false hm]; rfl)
  · rintro ρ ⟨x3, rfl, hp⟩
    rw [List.length_map, List.take_length] at hp
    simp -implicitDefEqProofs [qyD, tupI]
    refine ⟨rfl, fun _ => ?_⟩
    refine forW_inv (fun i ρ => ∃ x4 x5, ρ = ⟨[.val (qyD q), .val (tupI so), .val (.list (rows.map tupI)), x3, x4, x5], pn⟩ ∧ ∀ e ∈ q.eqs.take i, eOkQ so rows e = true) ?_ ?_ ⟨_, _, rfl, by simp⟩
    · rintro i d ρ hi ⟨x4, x5, rfl, hp2⟩ N hN
      rw [List.getElem?_map] at hi
      obtain ⟨b, hb, rfl⟩ := Option.map_eq_some_iff.mp hi
      have hbm := List.mem_of_getElem? hb
      have hbo := Z.q.e b hbm
      have no : eOkQ so rows b = false → Q (.bool false) pn := fun e => by
        have : holdQ q so rows = false := by
          unfold holdQ
          rw [Bool.and_eq_false_iff]
          exact .inr (List.all_eq_false.mpr ⟨b, hbm, by rw [e]; exact Bool.false_ne_true⟩)
        rwa [this] at h
      have yes : ∀ x4 x5, eOkQ so rows b = true → N ⟨[.val (qyD q), .val (tupI so), .val (.list (rows.map tupI)), x3, x4, x5], pn⟩ := fun x4 x5 e => hN _ ⟨_, _, rfl, fun b' hb' => by
        rw [take_snocA hb] at hb'
        rcases List.mem_append.mp hb' with z | z
        · exact hp2 b' z
        · rw [List.mem_singleton.mp z]; exact e⟩
      simp -implicitDefEqProofs [eqlD, colD, tupI]
      split
      · rename_i hm
        split
        · rename_i hm2
          obtain ⟨f1, f2, f3⟩ := fit b.1 hbo.1 hm
          obtain ⟨g1, g2, g3⟩ := fit b.2 hbo.2.1 hm2
          have e : eOkQ so rows b = decide (valQ so rows b.1 = valQ so rows b.2) := by unfold eOkQ; rw [decide_eq_true hm, decide_eq_true hm2]; rfl
          refine ⟨so, rows, b.1, rfl, hm, f1, f2, f3, so, rows, b.2, rfl, hm2, g1, g2, g3, ?_⟩
          simp -implicitDefEqProofs
          split
          · exact yes _ _ (by rw [e]; simpa)
          · exact no (by rw [e]; simpa)
        · rename_i hm2
          exact yes _ _ (by unfold eOkQ; rw [decide_eq_false hm2, Bool.and_false]; rfl)
      · rename_i hm
        exact yes _ _ (by unfold eOkQ; rw [decide_eq_false hm]; rfl)
    · rintro ρ ⟨x4, x5, rfl, hp2⟩
      rw [List.length_map, List.take_length] at hp2
      simp -implicitDefEqProofs
      have : holdQ q so rows = true := by
        unfold holdQ
        rw [Bool.and_eq_true]
        exact ⟨List.all_eq_true.mpr hp, List.all_eq_true.mpr hp2⟩
      rwa [this] at h
end K84
namespace K84
open PySem PySem.Spec PyProof.Rows L2 Dk
theorem zw {α β γ : Type} {f : α → β → γ} : ∀ (xs : List α) (ys : List β), List.zipWith f xs ys = (xs.zip ys).map fun p => f p.1 p.2
  | [], _ => by simp
  | _ :: _, [] => by simp
  | x :: xs, y :: ys => by rw [List.zipWith_cons_cons, List.zip_cons_cons, List.map_cons, zw xs ys]
theorem plc_zip {q : Qy} {db : Dbs} {so pl : List Int} (P : PlcOk q db so pl) {x : Int × Int} (h : x ∈ so.zip pl) : x.1 ∈ so ∧ 0 ≤ x.2 ∧ x.2 < (tabQ q db x.1).length := by
  obtain ⟨i, hi⟩ := List.mem_iff_getElem?.mp h
  obtain ⟨e1, e2⟩ := List.getElem?_zip_eq_some.mp hi
  exact ⟨List.mem_of_getElem? e1, P.at_ i _ _ e1 e2⟩
theorem p_rows_at (as : List Dk.Arg) (pn : Option Pen) (Q : D → Option Pen → Prop) (h : spRowsAt as pn Q) : t_q21 { nx := fun ρ => Q .none ρ.pn, rt := Q } ⟨startD 6 as, pn⟩ := by
  obtain ⟨sc, most, q, db, so, pl, rfl, Z, S, P, h⟩ := h
  unfold t_q21
  have hl := P.len
  simp -implicitDefEqProofs [tupI, hl, wipeD]
  intro _
  refine lcW_map (fun x : Int × Int => PyData.tuple [.int x.1, .int x.2]) (fun x => tupI (rowQ q db x.1 x.2)) (by rw [pairL_zip, List.zip_map, List.map_map]; rfl) (items2 rfl rfl (zipF_ok rfl rfl (by simp [hl]))) (fun x hx N hN => ?_) ?_
  · obtain ⟨hm, p0, p1⟩ := plc_zip P hx
    have hs := S.2 _ hm
    have q1 := gI_atQ hs.1 hs.2
    have q2 := map_atI (g := tblD) (Z.occ hs.1 hs.2).1 (Z.tab hs.1 hs.2)
    have q3 := map_atI (g := tupI) p0 (Z.row hs.1 hs.2 p0 p1).1
    simp -implicitDefEqProofs [wipeD, qyD, dbsD, tupI, ↓q1, ↓q2, ↓q3, tblD]
    exact hN
  · simp -implicitDefEqProofs [unwipe, keepV, wipeD, -List.map_map]
    have e : (so.zip pl).map (fun x => tupI (rowQ q db x.1 x.2)) = (rowsQ q db so pl).map tupI := by
      unfold rowsQ
      rw [zw, List.map_map]
      rfl
    rwa [e]
end K84
namespace K84
open PySem PySem.Spec PyProof.Rows L2 Dk
theorem cho_nil {q : Qy} {db : Dbs} : choL q db [] = [[]] := by
  have : holdQ q [] (rowsQ q db [] []) = true := by
    unfold holdQ
    rw [Bool.and_eq_true, List.all_eq_true, List.all_eq_true]
    exact ⟨fun b _ => by simp [bOkQ], fun e _ => by simp [eOkQ]⟩
  unfold choL
  simp [allC, this]
theorem p_choices_of (as : List Dk.Arg) (pn : Option Pen) (Q : List D → Option Pen → Prop) (h : spChoO as pn Q) : t_q10 spHold spRowsAt { nx := fun _ => False, rt := fun _ _ => False, ro := Q } ⟨startD 10 as, pn⟩ := by
  obtain ⟨sc, most, q, db, so, rfl, Z, S, h⟩ := h
  have hz : sizeLine = 16777216 := sizeLine_eq
  have s3 := S.1
  unfold t_q10
  simp -implicitDefEqProofs [tupI]
  refine ⟨rfl, fun _ => ?_⟩
  refine forW_inv (fun i ρ => ∃ x4 x5 x6 x7, ρ = ⟨[.val (qyD q), .val (dbsD db), .val (tupI so), .own ((choL q db (so.take i)).map tupI), x4, x5, x6, x7, .un, .un], pn⟩) ?_ ?_ ⟨_, _, _, _, by rw [List.take_zero, cho_nil]; rfl⟩
  · rintro i d ρ hi ⟨x4, x5, x6, x7, rfl⟩ N hN
    rw [enumL_get, List.getElem?_map] at hi
    obtain ⟨o, ho, rfl⟩ := Option.map_eq_some_iff.mp (by simpa [Option.map_map] using hi)
    have hil := (List.getElem?_eq_some_iff.mp ho).1
    have hs := S.2 o (List.mem_of_getElem? ho)
    have q1 := gI_atQ hs.1 hs.2
    have q2 := map_atI (g := tblD) (Z.occ hs.1 hs.2).1 (Z.tab hs.1 hs.2)
    have hcl := cho_bd Z (so := so.take i) (by rw [List.length_take]; omega)
    have htl := tabs_bd Z o
    simp -implicitDefEqProofs [qyD, dbsD, tupI, ↓q1, ↓q2, tblD, wipeD]
    intro _
    have et : so.take (i + 1) = so.take i ++ [o] := take_snocA ho
    have ec : Dk.cutD (so.map PyData.int) none (some ((i : Int) + 1)) = (so.take (i + 1)).map PyData.int := by
      rw [show ((i : Int) + 1) = ((i + 1 : Nat) : Int) by omega, cut0, List.map_take]
    refine lcO_flat (ts := choL q db (so.take i)) tupI (fun pl => (extQ q db o pl).map tupI) 10000 rfl rfl ?_ (fun pl hpl acc hacc N3 hN3 => ?_) ?_
    · refine Nat.le_trans (flat_le (m := 10) fun pl _ => by rw [List.length_map, extQ_len]; exact htl) ?_
      have := Nat.mul_le_mul_right 10 hcl
      omega
    · have hpo := choL_ok hpl
      have hpl3 : pl.length ≤ 3 := by rw [hpo.len, List.length_take]; omega
      rw [List.length_map, extQ_len] at hacc
      unfold tupI
      simp -implicitDefEqProofs [wipeD]
      refine ⟨by omega, by (try rw [rangeD_len]); omega, ?_⟩
      rw [lcW_shift]
      refine lcW_map (ts := rngI (tabQ q db o).length) .int (fun p => tupI (pl ++ [p])) range_rng rfl (fun p hp N4 hN4 => ?_) ?_
      · simp -implicitDefEqProofs [wipeD]
        refine ⟨by omega, ?_⟩
        unfold tupI at hN4
        rw [List.map_append] at hN4
        exact hN4
      · have e : (extQ q db o pl).map tupI = (rngI (tabQ q db o).length).map fun p => tupI (pl ++ [p]) := by unfold extQ; rw [List.map_map]; rfl
        rw [e] at hN3
        exact hN3
    · have e : ((choL q db (so.take i)).flatMap fun pl => (extQ q db o pl).map tupI) = ((choL q db (so.take i)).flatMap (extQ q db o)).map tupI := by rw [List.map_flatMap]
      rw [e]
      simp -implicitDefEqProofs [unwipe, keepV, wipeD, -List.map_map, -List.map_flatMap]
      intro _
      refine lcW_fm (ts := (choL q db (so.take i)).flatMap (extQ q db o)) tupI (fun pl => holdQ q (so.take i ++ [o]) (rowsQ q db (so.take i ++ [o]) pl)) tupI rfl rfl (fun pl hpl N3 hy hn => ?_) ?_
      · obtain ⟨pl0, h0, h1⟩ := List.mem_flatMap.mp hpl
        obtain ⟨p, hp, rfl⟩ := List.mem_map.mp h1
        have hpp := rngI_mem hp
        have P : PlcOk q db (so.take i ++ [o]) (pl0 ++ [p]) := (choL_ok h0).snoc hpp.1 hpp.2
        have S2 : SoOk q (so.take i ++ [o]) := by rw [← et]; exact S.take _
        simp -implicitDefEqProofs [wipeD, ec, et, -List.map_append]
        refine ⟨sc, most, q, db, _, _, rfl, Z, S2, P, sc, most, q, db, _, _, rfl, Z, S2, P, ?_⟩
        simp -implicitDefEqProofs [wipeD, -List.map_append]
        split
        · exact hy (by assumption)
        · rename_i hf
          exact hn (by simpa using hf)
      · rw [cho_step, ← et]
        simp -implicitDefEqProofs [unwipe, keepV, wipeD, -List.map_map]
        exact hN _ ⟨_, _, _, _, rfl⟩
  · rintro ρ ⟨x4, x5, x6, x7, rfl⟩
    rw [show (enumL 0 (so.map PyData.int)).length = so.length by rw [← List.length_map (f := PyData.int) (as := so)]; exact enumL_len, List.take_length]
    simp -implicitDefEqProofs
    exact h
end K84
namespace K84
open PySem PySem.Spec PyProof.Rows L2 Dk
theorem flat_le3 {rows : Tbl} (h : ∀ r ∈ rows, r.length ≤ 3) : rows.flatten.length ≤ rows.length * 3 := by
  induction rows with
  | nil => simp
  | cons r rows ih =>
    have := h r List.mem_cons_self
    have := ih fun x hx => h x (List.mem_cons_of_mem _ hx)
    rw [List.flatten_cons, List.length_append, List.length_cons]
    omega
theorem p_joined (as : List Dk.Arg) (pn : Option Pen) (Q : D → Option Pen → Prop) (h : spJoined as pn Q) : t_q23 spRowsAt { nx := fun ρ => Q .none ρ.pn, rt := Q } ⟨startD 6 as, pn⟩ := by
  obtain ⟨sc, most, q, db, so, pl, rfl, Z, S, P, h⟩ := h
  have hz : sizeLine = 16777216 := sizeLine_eq
  have hl := rowsQ_len (q := q) (db := db) P.len
  have s3 := S.1
  have r3 := row_le3 Z S P
  unfold t_q23
  simp -implicitDefEqProofs
  refine ⟨sc, most, q, db, so, pl, rfl, Z, S, P, ?_⟩
  simp -implicitDefEqProofs
  unfold joinQ at h
  generalize rowsQ q db so pl = rows at hl r3 h
  refine ⟨rfl, fun _ => ?_⟩
  refine forW_inv (fun i ρ => ∃ x5, ρ = ⟨[.val (qyD q), .val (dbsD db), .val (tupI so), .val (tupI pl), .val (tupI (rows.take i).flatten), x5], pn⟩) ?_ ?_ ⟨_, rfl⟩
  · rintro i d ρ hi ⟨x5, rfl⟩ N hN
    rw [List.getElem?_map] at hi
    obtain ⟨r, hr, rfl⟩ := Option.map_eq_some_iff.mp hi
    have hrl := r3 r (List.mem_of_getElem? hr)
    have hfl := flat_le3 (rows := rows.take i) fun x hx => r3 x (List.mem_of_mem_take hx)
    rw [List.length_take] at hfl
    have e1 : (rows.take (i + 1)).flatten = (rows.take i).flatten ++ r := by rw [take_snocA hr]; simp
    rw [e1] at hN
    generalize (rows.take i).flatten = fl at hfl hN
    have h2 := hN _ ⟨.val (tupI r), rfl⟩
    unfold tupI at h2 ⊢
    simp -implicitDefEqProofs
    refine ⟨by omega, ?_⟩
    rw [List.map_append] at h2
    exact h2
  · rintro ρ ⟨x5, rfl⟩
    rw [List.length_map, List.take_length]
    simp -implicitDefEqProofs
    exact h
theorem p_all_occurrences (as : List Dk.Arg) (pn : Option Pen) (Q : D → Option Pen → Prop) (h : spOccs as pn Q) : t_q3 { nx := fun ρ => Q .none ρ.pn, rt := Q } ⟨startD 1 as, pn⟩ := by
  obtain ⟨q, sc, rfl, Z, h⟩ := h
  unfold t_q3
  have := Z.o3
  simp -implicitDefEqProofs [qyD, tupI, range_rng]
  exact ⟨by omega, h⟩
theorem p_answer (as : List Dk.Arg) (pn : Option Pen) (Q : List D → Option Pen → Prop) (h : spAnsO as pn Q) : t_q22 spOccs spChoO spRowsAt spValIn { nx := fun _ => False, rt := fun _ _ => False, ro := Q } ⟨startD 9 as, pn⟩ := by
  obtain ⟨sc, most, q, db, rfl, Z, h⟩ := h
  have hz : sizeLine = 16777216 := sizeLine_eq
  have S := occs_so Z.q
  have hcl := cho_bd Z S.1
  unfold t_q22
  simp -implicitDefEqProofs [wipeD]
  refine ⟨q, sc, rfl, Z.q, ?_⟩
  simp -implicitDefEqProofs [wipeD]
  refine ⟨sc, most, q, db, occsQ q, rfl, Z, S, ?_⟩
  simp -implicitDefEqProofs [wipeD]
  intro _
  refine lcW_map (ts := choL q db (occsQ q)) tupI (fun pl => .list ((rowsQ q db (occsQ q) pl).map tupI)) rfl rfl (fun pl hpl N hN => ?_) ?_
  · simp -implicitDefEqProofs [wipeD]
    refine ⟨sc, most, q, db, occsQ q, pl, rfl, Z, S, choL_ok hpl, ?_⟩
    simp -implicitDefEqProofs [wipeD]
    exact hN
  have e0 : (choL q db (occsQ q)).map (fun pl => PyData.list ((rowsQ q db (occsQ q) pl).map tupI)) = (rowsA q db).map fun rows => .list (rows.map tupI) := by unfold rowsA; rw [List.map_map]; rfl
  rw [e0]
  have hra : (rowsA q db).length ≤ 1000 := by unfold rowsA; rw [List.length_map]; exact hcl
  have fit : ∀ rows ∈ rowsA q db, ∀ c, ColOk sc q.occ c → c.1 ∈ occsQ q ∧ (occsQ q).idxOf c.1 < rows.length ∧ 0 ≤ c.2 ∧ c.2 < ((rows.getD ((occsQ q).idxOf c.1) []).length : Int) := fun rows hr c hc => by
    obtain ⟨pl, hpl, rfl⟩ := List.mem_map.mp hr
    have hm : c.1 ∈ occsQ q := List.mem_map.mpr ⟨c.1.toNat, List.mem_range.mpr (by have := hc.1; have := hc.2.1; omega), by have := hc.1; omega⟩
    exact ⟨hm, val_fit Z S (choL_ok hpl) hc hm⟩
  unfold answerA at h
  unfold outA grpA at h
  generalize rowsA q db = RS at hra fit h
  simp -implicitDefEqProofs [unwipe, keepV, wipeD, -List.map_map, qyD]
  cases hg : q.grp with
  | none =>
    rw [hg] at h
    simp -implicitDefEqProofs [grpD, isNone, wipeD, -List.map_map]
    intro _
    refine lcW_map (ts := RS) (fun rows => .list (rows.map tupI)) (fun rows => tupI (q.out.map (valQ (occsQ q) rows))) rfl rfl (fun rows hr N hN => ?_) ?_
    · have hu4 := Z.q.u4
      simp -implicitDefEqProofs [wipeD, -List.map_map]
      intro _
      refine lcW_mapI (ts := q.out) colD (valQ (occsQ q) rows) rfl rfl (fun c hc N3 hN3 => ?_) ?_
      · obtain ⟨f1, f2, f3, f4⟩ := fit rows hr c (Z.q.u c hc)
        simp -implicitDefEqProofs [wipeD]
        refine ⟨occsQ q, rows, c, rfl, f1, f2, f3, f4, ?_⟩
        simp -implicitDefEqProofs [wipeD]
        exact hN3
      · simp -implicitDefEqProofs [unwipe, keepV, wipeD, -List.map_map]
        exact hN
    · simp -implicitDefEqProofs [unwipe, keepV, wipeD, -List.map_map]
      have e : RS.map (fun rows => tupI (q.out.map (valQ (occsQ q) rows))) = (RS.map fun rows => q.out.map (valQ (occsQ q) rows)).map tupI := by rw [List.map_map]; rfl
      rw [e] at h ⊢
      exact ⟨sort_tups (n := q.out.length) fun r hr => by
        obtain ⟨rows, _, rfl⟩ := List.mem_map.mp hr
        rw [List.length_map], h⟩
  | some c =>
    rw [hg] at h
    have hc := (Z.q.g c hg).1
    simp -implicitDefEqProofs [grpD, colD, isNone, wipeD, -List.map_map]
    intro _
    refine lcW_mapI (ts := RS) (fun rows => .list (rows.map tupI)) (fun rows => valQ (occsQ q) rows c) rfl rfl (fun rows hr N hN => ?_) ?_
    · obtain ⟨f1, f2, f3, f4⟩ := fit rows hr c hc
      simp -implicitDefEqProofs [wipeD, -List.map_map]
      refine ⟨occsQ q, rows, c, rfl, f1, f2, f3, f4, ?_⟩
      simp -implicitDefEqProofs [wipeD]
      exact hN
    · simp -implicitDefEqProofs [unwipe, keepV, wipeD, -List.map_map]
      refine ⟨by omega, fun _ => ?_⟩
      refine lcW_map (ts := sortU (RS.map fun rows => valQ (occsQ q) rows c)) .int (fun v => .tuple [.int v, .int ((RS.map fun rows => valQ (occsQ q) rows c).count v : Nat)]) rfl rfl (fun v hv N hN => ?_) ?_
      · simp -implicitDefEqProofs [wipeD, -List.map_map]
        exact ⟨rfl, hN⟩
      · simp -implicitDefEqProofs [unwipe, keepV, wipeD, -List.map_map]
        exact h
end K84
namespace K84
open PySem PySem.Spec PyProof.Rows L2 Dk
theorem p_law_value_of (as : List Dk.Arg) (pn : Option Pen) (Q : D → Option Pen → Prop) (h : spValIn as pn Q) : t_q5 { nx := fun ρ => Q .none ρ.pn, rt := Q } ⟨startD 3 as, pn⟩ := by
  obtain ⟨so, rows, c, rfl, hm, hi, c0, c1, h⟩ := h
  unfold t_q5
  have q1 := map_atQ (g := tupI) (getD_get (d := []) hi)
  have q2 := gI_atQ c0 c1
  rw [List.getD_eq_getElem?_getD] at q2
  simp -implicitDefEqProofs [tupI, colD]
  refine ⟨rfl, hm, ?_⟩
  rw [q1]
  simp -implicitDefEqProofs [tupI]
  rw [q2]
  exact h
theorem p_law_holds (as : List Dk.Arg) (pn : Option Pen) (Q : D → Option Pen → Prop) (h : spHold as pn Q) : t_q14 spValIn { nx := fun ρ => Q .none ρ.pn, rt := Q } ⟨startD 9 as, pn⟩ := by
  obtain ⟨sc, most, q, db, so, pl, rfl, Z, S, P, h⟩ := h
  have fit : ∀ c, ColOk sc q.occ c → c.1 ∈ so → _ := fun c hc hm => val_fit Z S P hc hm
  have hz : sizeLine = 16777216 := sizeLine_eq
  have hb4 := Z.q.b4
  have he3 := Z.q.e3
  generalize rowsQ q db so pl = rows at fit h
  unfold t_q14
  simp -implicitDefEqProofs [qyD, tupI]
  refine ⟨rfl, fun _ => ?_⟩
  refine forW_inv (fun i ρ => ∃ x3 x4 x5 x8, ρ = ⟨[.val (qyD q), .val (tupI so), .val (.list (rows.map tupI)), x3, x4, x5, .un, .un, x8], pn⟩ ∧ ∀ b ∈ q.bnd.take i, bOkQ so rows b = true) ?_ ?_ ⟨_, _, _, _, rfl, by simp⟩
  · rintro i d ρ hi ⟨x3, x4, x5, x8, rfl, hp⟩ N hN
    rw [List.getElem?_map] at hi
    obtain ⟨b, hb, rfl⟩ := Option.map_eq_some_iff.mp hi
    have hbm := List.mem_of_getElem? hb
    have hbo := Z.q.b b hbm
    have no : bOkQ so rows b = false → Q (.bool false) pn := fun e => by
      have : holdQ q so rows = false := by
        unfold holdQ
        rw [Bool.and_eq_false_iff]
        exact .inl (List.all_eq_false.mpr ⟨b, hbm, by rw [e]; exact Bool.false_ne_true⟩)
      rwa [this] at h
    have yes : ∀ x3 x4 x5 x8, bOkQ so rows b = true → N ⟨[.val (qyD q), .val (tupI so), .val (.list (rows.map tupI)), x3, x4, x5, .un, .un, x8], pn⟩ := fun x3 x4 x5 x8 e => hN _ ⟨_, _, _, _, rfl, fun b' hb' => by
      rw [take_snocA hb] at hb'
      rcases List.mem_append.mp hb' with z | z
      · exact hp b' z
      · rw [List.mem_singleton.mp z]; exact e⟩
    simp -implicitDefEqProofs [bndD, colD, tupI, eqOk_str, eqv_strQ]
    split
    · rename_i hm
      obtain ⟨f1, f2, f3⟩ := fit b.1 hbo.1 hm
      have e : bOkQ so rows b = bndT b (valQ so rows b.1) := by unfold bOkQ; rw [decide_eq_true hm]; rfl
      refine ⟨so, rows, b.1, rfl, hm, f1, f2, f3, ?_⟩
      simp -implicitDefEqProofs [eqOk_str, eqv_strQ]
      unfold bndT at e
      split
      · rename_i hw
        rw [if_pos hw] at e
        split
        · exact no (by rw [e]; simp; omega)
        · exact yes _ _ _ _ (by rw [e]; simp; omega)
      · rename_i hw
        rw [if_neg hw] at e
        split
        · exact no (by rw [e]; simp; omega)
        · exact yes _ _ _ _ (by rw [e]; simp; omega)
    · rename_i hm
      exact yes _ _ _ _ (by unfold bOkQ; rw [decide_eq_false hm]; rfl)
  · rintro ρ ⟨x3, x4, x5, x8, rfl, hp⟩
    rw [List.length_map, List.take_length] at hp
    simp -implicitDefEqProofs [qyD, tupI]
    refine ⟨rfl, fun _ => ?_⟩
    refine forW_inv (fun i ρ => ∃ x6 x7, ρ = ⟨[.val (qyD q), .val (tupI so), .val (.list (rows.map tupI)), x3, x4, x5, x6, x7, x8], pn⟩ ∧ ∀ e ∈ q.eqs.take i, eOkQ so rows e = true) ?_ ?_ ⟨_, _, rfl, by simp⟩
    · rintro i d ρ hi ⟨x6, x7, rfl, hp2⟩ N hN
      rw [List.getElem?_map] at hi
      obtain ⟨b, hb, rfl⟩ := Option.map_eq_some_iff.mp hi
      have hbm := List.mem_of_getElem? hb
      have hbo := Z.q.e b hbm
      have no : eOkQ so rows b = false → Q (.bool false) pn := fun e => by
        have : holdQ q so rows = false := by
          unfold holdQ
          rw [Bool.and_eq_false_iff]
          exact .inr (List.all_eq_false.mpr ⟨b, hbm, by rw [e]; exact Bool.false_ne_true⟩)
        rwa [this] at h
      have yes : ∀ x6 x7, eOkQ so rows b = true → N ⟨[.val (qyD q), .val (tupI so), .val (.list (rows.map tupI)), x3, x4, x5, x6, x7, x8], pn⟩ := fun x6 x7 e => hN _ ⟨_, _, rfl, fun b' hb' => by
        rw [take_snocA hb] at hb'
        rcases List.mem_append.mp hb' with z | z
        · exact hp2 b' z
        · rw [List.mem_singleton.mp z]; exact e⟩
      simp -implicitDefEqProofs [eqlD, colD, tupI]
      split
      · rename_i hm
        split
        · rename_i hm2
          obtain ⟨f1, f2, f3⟩ := fit b.1 hbo.1 hm
          obtain ⟨g1, g2, g3⟩ := fit b.2 hbo.2.1 hm2
          have e : eOkQ so rows b = decide (valQ so rows b.1 = valQ so rows b.2) := by unfold eOkQ; rw [decide_eq_true hm, decide_eq_true hm2]; rfl
          refine ⟨so, rows, b.1, rfl, hm, f1, f2, f3, so, rows, b.2, rfl, hm2, g1, g2, g3, ?_⟩
          simp -implicitDefEqProofs
          split
          · exact yes _ _ (by rw [e]; simpa)
          · exact no (by rw [e]; simpa)
        · rename_i hm2
          exact yes _ _ (by unfold eOkQ; rw [decide_eq_false hm2, Bool.and_false]; rfl)
      · rename_i hm
        exact yes _ _ (by unfold eOkQ; rw [decide_eq_false hm]; rfl)
    · rintro ρ ⟨x6, x7, rfl, hp2⟩
      rw [List.length_map, List.take_length] at hp2
      simp -implicitDefEqProofs
      have : holdQ q so rows = true := by
        unfold holdQ
        rw [Bool.and_eq_true]
        exact ⟨List.all_eq_true.mpr hp, List.all_eq_true.mpr hp2⟩
      rwa [this] at h
theorem p_law_rows_at (as : List Dk.Arg) (pn : Option Pen) (Q : D → Option Pen → Prop) (h : spRowsAt as pn Q) : t_q6 { nx := fun ρ => Q .none ρ.pn, rt := Q } ⟨startD 6 as, pn⟩ := by
  obtain ⟨sc, most, q, db, so, pl, rfl, Z, S, P, h⟩ := h
  unfold t_q6
  have hl := P.len
  simp -implicitDefEqProofs [tupI, hl, wipeD]
  intro _
  refine lcW_map (fun x : Int × Int => PyData.tuple [.int x.1, .int x.2]) (fun x => tupI (rowQ q db x.1 x.2)) (by rw [pairL_zip, List.zip_map, List.map_map]; rfl) (items2 rfl rfl (zipF_ok rfl rfl (by simp [hl]))) (fun x hx N hN => ?_) ?_
  · obtain ⟨hm, p0, p1⟩ := plc_zip P hx
    have hs := S.2 _ hm
    have q1 := gI_atQ hs.1 hs.2
    have q2 := map_atI (g := tblD) (Z.occ hs.1 hs.2).1 (Z.tab hs.1 hs.2)
    have q3 := map_atI (g := tupI) p0 (Z.row hs.1 hs.2 p0 p1).1
    simp -implicitDefEqProofs [wipeD, qyD, dbsD, tupI, ↓q1, ↓q2, ↓q3, tblD]
    exact hN
  · simp -implicitDefEqProofs [unwipe, keepV, wipeD, -List.map_map]
    have e : (so.zip pl).map (fun x => tupI (rowQ q db x.1 x.2)) = (rowsQ q db so pl).map tupI := by
      unfold rowsQ
      rw [zw, List.map_map]
      rfl
    rwa [e]
end K84
namespace K84
open PySem PySem.Spec PyProof.Rows L2 Dk
theorem p_law_choices (as : List Dk.Arg) (pn : Option Pen) (Q : D → Option Pen → Prop) (h : spCho as pn Q) : t_q7 spHold spRowsAt { nx := fun ρ => Q .none ρ.pn, rt := Q } ⟨startD 8 as, pn⟩ := by
  obtain ⟨sc, most, q, db, so, rfl, Z, S, h⟩ := h
  have hz : sizeLine = 16777216 := sizeLine_eq
  have s3 := S.1
  unfold t_q7
  simp -implicitDefEqProofs [tupI, oFix]
  refine ⟨rfl, fun _ => ?_⟩
  refine forW_inv (fun i ρ => ∃ x3 x4 x5 x6 x7, ρ = ⟨[.val (qyD q), .val (dbsD db), .val (tupI so), x3, x4, x5, x6, x7], pn⟩ ∧ (x3 = .own ((allC q db (so.take i)).map tupI) ∨ x3 = .val (.list ((allC q db (so.take i)).map tupI)))) ?_ ?_ ⟨_, _, _, _, _, rfl, .inl (by rw [List.take_zero]; rfl)⟩
  · rintro i d ρ hi ⟨x3, x4, x5, x6, x7, rfl, hx3⟩ N hN
    rw [List.getElem?_map] at hi
    obtain ⟨o, ho, rfl⟩ := Option.map_eq_some_iff.mp hi
    have hil := (List.getElem?_eq_some_iff.mp ho).1
    have hs := S.2 o (List.mem_of_getElem? ho)
    have q1 := gI_atQ hs.1 hs.2
    have q2 := map_atI (g := tblD) (Z.occ hs.1 hs.2).1 (Z.tab hs.1 hs.2)
    have hcl := all_bd Z (so := so.take i) (by rw [List.length_take]; omega)
    have htl := tabs_bd Z o
    have et : so.take (i + 1) = so.take i ++ [o] := take_snocA ho
    have hpo : ∀ pl ∈ allC q db (so.take i), pl.length ≤ 3 := fun pl h => by rw [(allC_ok _ _ h).len, List.length_take]; omega
    generalize ec : allC q db (so.take i) = C at hcl hpo hx3
    rcases hx3 with rfl | rfl
    all_goals
      simp -implicitDefEqProofs [oFix]
      refine ⟨rfl, fun _ => ?_⟩
      refine forW_inv (fun j ρ => ∃ x6 x7, ρ = ⟨[.val (qyD q), .val (dbsD db), .val (tupI so), .val (.list (C.map tupI)), .val (.int o), .own (((C.take j).flatMap (extQ q db o)).map tupI), x6, x7], pn⟩) ?_ ?_ ⟨_, _, rfl⟩
      · rintro j d ρ hj ⟨x6, x7, rfl⟩ N2 hN2
        rw [List.getElem?_map] at hj
        obtain ⟨pl, hpl, rfl⟩ := Option.map_eq_some_iff.mp hj
        have hpl3 := hpo pl (List.mem_of_getElem? hpl)
        have hfl : ((C.take j).flatMap (extQ q db o)).length ≤ 10000 := by
          refine Nat.le_trans (flat_le (m := 10) fun x _ => by rw [extQ_len]; exact htl) ?_
          have hj10 : (C.take j).length ≤ 1000 := by rw [List.length_take]; omega
          have := Nat.mul_le_mul_right 10 hj10
          omega
        have e1 : (C.take (j + 1)).flatMap (extQ q db o) = (C.take j).flatMap (extQ q db o) ++ extQ q db o pl := by rw [take_snocA hpl]; simp
        have e2 : (extQ q db o pl).map tupI = (rngI (tabQ q db o).length).map fun p => tupI (pl ++ [p]) := by unfold extQ; rw [List.map_map]; rfl
        have hel : (extQ q db o pl).length ≤ 10 := by rw [extQ_len]; exact htl
        have h2 := fun x7 => hN2 _ ⟨.val (tupI pl), x7, rfl⟩
        simp only [e1, List.map_append, e2] at h2
        generalize (C.take j).flatMap (extQ q db o) = F at hfl h2
        simp -implicitDefEqProofs [qyD, dbsD, tupI, ↓q1, ↓q2, tblD, wipeD]
        refine ⟨by omega, fun _ => ?_⟩
        refine lcW_map (ts := rngI (tabQ q db o).length) .int (fun p => tupI (pl ++ [p])) range_rng rfl (fun p hp N4 hN4 => ?_) ?_
        · simp -implicitDefEqProofs [wipeD]
          refine ⟨by omega, ?_⟩
          unfold tupI at hN4
          rw [List.map_append] at hN4
          exact hN4
        · simp -implicitDefEqProofs [unwipe, keepV, wipeD, -List.map_map]
          exact ⟨by rw [rngI_len]; omega, h2 _⟩
      · rintro ρ ⟨x6, x7, rfl⟩
        rw [List.length_map, List.take_length]
        simp -implicitDefEqProofs
        exact hN _ ⟨_, _, _, _, _, rfl, by rw [et, allC_snoc, ec]; first | exact .inl rfl | exact .inr rfl⟩
  · rintro ρ ⟨x3, x4, x5, x6, x7, rfl, hx3⟩
    rw [List.length_map, List.take_length] at hx3
    rcases hx3 with rfl | rfl
    all_goals
      simp -implicitDefEqProofs [unwipe, keepV, wipeD, -List.map_map]
      intro _
      refine lcW_fm (ts := allC q db so) tupI (fun pl => holdQ q so (rowsQ q db so pl)) tupI rfl rfl (fun pl hpl N3 hy hn => ?_) ?_
      · have P : PlcOk q db so pl := allC_ok so pl hpl
        simp -implicitDefEqProofs [wipeD]
        refine ⟨sc, most, q, db, so, pl, rfl, Z, S, P, ?_⟩
        simp -implicitDefEqProofs [wipeD]
        refine ⟨sc, most, q, db, so, pl, rfl, Z, S, P, ?_⟩
        simp -implicitDefEqProofs [wipeD]
        split
        · exact hy (by assumption)
        · rename_i hf
          exact hn (by simpa using hf)
      · simp -implicitDefEqProofs [unwipe, keepV, wipeD, -List.map_map]
        exact h
theorem p_law_joined (as : List Dk.Arg) (pn : Option Pen) (Q : D → Option Pen → Prop) (h : spJoin1 as pn Q) : t_q13 { nx := fun ρ => Q .none ρ.pn, rt := Q } ⟨startD 3 as, pn⟩ := by
  obtain ⟨rows, rfl, hl, r3, h⟩ := h
  have hz : sizeLine = 16777216 := sizeLine_eq
  unfold t_q13
  simp -implicitDefEqProofs [oFix]
  refine ⟨rfl, fun _ => ?_⟩
  refine forW_inv (fun i ρ => ∃ x2, ρ = ⟨[.val (.list (rows.map tupI)), .val (tupI (rows.take i).flatten), x2], pn⟩) ?_ ?_ ⟨_, rfl⟩
  · rintro i d ρ hi ⟨x2, rfl⟩ N hN
    rw [List.getElem?_map] at hi
    obtain ⟨r, hr, rfl⟩ := Option.map_eq_some_iff.mp hi
    have hrl := r3 r (List.mem_of_getElem? hr)
    have hfl := flat_le3 (rows := rows.take i) fun x hx => r3 x (List.mem_of_mem_take hx)
    rw [List.length_take] at hfl
    have e1 : (rows.take (i + 1)).flatten = (rows.take i).flatten ++ r := by rw [take_snocA hr]; simp
    rw [e1] at hN
    generalize (rows.take i).flatten = fl at hfl hN
    have h2 := hN _ ⟨.val (tupI r), rfl⟩
    unfold tupI at h2 ⊢
    simp -implicitDefEqProofs
    refine ⟨by omega, ?_⟩
    rw [List.map_append] at h2
    exact h2
  · rintro ρ ⟨x2, rfl⟩
    rw [List.length_map, List.take_length]
    simp -implicitDefEqProofs
    exact h
theorem p_law_answer (as : List Dk.Arg) (pn : Option Pen) (Q : D → Option Pen → Prop) (h : spAns as pn Q) : t_q9 spCho spRowsAt spValIn { nx := fun ρ => Q .none ρ.pn, rt := Q } ⟨startD 9 as, pn⟩ := by
  obtain ⟨sc, most, q, db, rfl, Z, h⟩ := h
  have hz : sizeLine = 16777216 := sizeLine_eq
  have S := occs_so Z.q
  have hcl := cho_bd Z S.1
  unfold t_q9
  have o3 := Z.q.o3
  simp -implicitDefEqProofs [qyD, tupI, range_rng, wipeD]
  refine ⟨by omega, ?_⟩
  refine ⟨sc, most, q, db, occsQ q, rfl, Z, S, ?_⟩
  simp -implicitDefEqProofs [wipeD]
  intro _
  refine lcW_map (ts := choL q db (occsQ q)) tupI (fun pl => .list ((rowsQ q db (occsQ q) pl).map tupI)) rfl rfl (fun pl hpl N hN => ?_) ?_
  · simp -implicitDefEqProofs [wipeD]
    refine ⟨sc, most, q, db, occsQ q, pl, rfl, Z, S, choL_ok hpl, ?_⟩
    simp -implicitDefEqProofs [wipeD]
    exact hN
  have e0 : (choL q db (occsQ q)).map (fun pl => PyData.list ((rowsQ q db (occsQ q) pl).map tupI)) = (rowsA q db).map fun rows => .list (rows.map tupI) := by unfold rowsA; rw [List.map_map]; rfl
  rw [e0]
  have hra : (rowsA q db).length ≤ 1000 := by unfold rowsA; rw [List.length_map]; exact hcl
  have fit : ∀ rows ∈ rowsA q db, ∀ c, ColOk sc q.occ c → c.1 ∈ occsQ q ∧ (occsQ q).idxOf c.1 < rows.length ∧ 0 ≤ c.2 ∧ c.2 < ((rows.getD ((occsQ q).idxOf c.1) []).length : Int) := fun rows hr c hc => by
    obtain ⟨pl, hpl, rfl⟩ := List.mem_map.mp hr
    have hm : c.1 ∈ occsQ q := List.mem_map.mpr ⟨c.1.toNat, List.mem_range.mpr (by have := hc.1; have := hc.2.1; omega), by have := hc.1; omega⟩
    exact ⟨hm, val_fit Z S (choL_ok hpl) hc hm⟩
  unfold answerA at h
  unfold outA grpA at h
  generalize rowsA q db = RS at hra fit h
  simp -implicitDefEqProofs [unwipe, keepV, wipeD, -List.map_map, qyD]
  cases hg : q.grp with
  | none =>
    rw [hg] at h
    simp -implicitDefEqProofs [grpD, isNone, wipeD, -List.map_map]
    intro _
    refine lcW_map (ts := RS) (fun rows => .list (rows.map tupI)) (fun rows => tupI (q.out.map (valQ (occsQ q) rows))) rfl rfl (fun rows hr N hN => ?_) ?_
    · have hu4 := Z.q.u4
      simp -implicitDefEqProofs [wipeD, -List.map_map]
      intro _
      refine lcW_mapI (ts := q.out) colD (valQ (occsQ q) rows) rfl rfl (fun c hc N3 hN3 => ?_) ?_
      · obtain ⟨f1, f2, f3, f4⟩ := fit rows hr c (Z.q.u c hc)
        simp -implicitDefEqProofs [wipeD]
        refine ⟨occsQ q, rows, c, rfl, f1, f2, f3, f4, ?_⟩
        simp -implicitDefEqProofs [wipeD]
        exact hN3
      · simp -implicitDefEqProofs [unwipe, keepV, wipeD, -List.map_map]
        exact hN
    · simp -implicitDefEqProofs [unwipe, keepV, wipeD, -List.map_map]
      have e : RS.map (fun rows => tupI (q.out.map (valQ (occsQ q) rows))) = (RS.map fun rows => q.out.map (valQ (occsQ q) rows)).map tupI := by rw [List.map_map]; rfl
      rw [e] at h ⊢
      exact ⟨sort_tups (n := q.out.length) fun r hr => by
        obtain ⟨rows, _, rfl⟩ := List.mem_map.mp hr
        rw [List.length_map], h⟩
  | some c =>
    rw [hg] at h
    have hc := (Z.q.g c hg).1
    simp -implicitDefEqProofs [grpD, colD, isNone, wipeD, -List.map_map]
    intro _
    refine lcW_mapI (ts := RS) (fun rows => .list (rows.map tupI)) (fun rows => valQ (occsQ q) rows c) rfl rfl (fun rows hr N hN => ?_) ?_
    · obtain ⟨f1, f2, f3, f4⟩ := fit rows hr c hc
      simp -implicitDefEqProofs [wipeD, -List.map_map]
      refine ⟨occsQ q, rows, c, rfl, f1, f2, f3, f4, ?_⟩
      simp -implicitDefEqProofs [wipeD]
      exact hN
    · simp -implicitDefEqProofs [unwipe, keepV, wipeD, -List.map_map]
      refine ⟨by omega, fun _ => ?_⟩
      refine lcW_map (ts := sortU (RS.map fun rows => valQ (occsQ q) rows c)) .int (fun v => .tuple [.int v, .int ((RS.map fun rows => valQ (occsQ q) rows c).count v : Nat)]) rfl rfl (fun v hv N hN => ?_) ?_
      · simp -implicitDefEqProofs [wipeD, -List.map_map]
        exact ⟨rfl, hN⟩
      · simp -implicitDefEqProofs [unwipe, keepV, wipeD, -List.map_map]
        exact h
end K84
namespace K84
open PySem PySem.Spec PyProof.Rows L2 Dk
theorem p_spread (as : List Dk.Arg) (pn : Option Pen) (Q : D → Option Pen → Prop) (h : spSpread as pn Q) : t_q12 { nx := fun ρ => Q .none ρ.pn, rt := Q } ⟨startD 6 as, pn⟩ := by
  obtain ⟨c, a, rfl, h0, h1, h⟩ := h
  unfold t_q12
  have k1 : CPow 10 18 := by decide
  have c0 : 0 ≤ c % 1000000007 := Int.emod_nonneg _ (by decide)
  have c1 : c % 1000000007 < 1000000007 := Int.emod_lt_of_pos _ (by decide)
  have e0 : 0 ≤ c % 65537 := Int.emod_nonneg _ (by decide)
  have e1 : c % 65537 < 65537 := Int.emod_lt_of_pos _ (by decide)
  have m := mul_bd (x := c % 1000000007) (y := 2 * a + 69069) (a := 1000000006) (b := 4295036363) c0 (by omega) (by omega) (by omega)
  have q0 : 0 ≤ a % 13 := Int.emod_nonneg _ (by decide)
  have q1 : a % 13 < 13 := Int.emod_lt_of_pos _ (by decide)
  have q2 : 0 ≤ (a + 5) % 13 := Int.emod_nonneg _ (by decide)
  have q3 : (a + 5) % 13 < 13 := Int.emod_lt_of_pos _ (by decide)
  have q4 : 0 ≤ (a + 7) % 13 := Int.emod_nonneg _ (by decide)
  have q5 : (a + 7) % 13 < 13 := Int.emod_lt_of_pos _ (by decide)
  simp [k1]
  split
  · exact h c
  · refine ⟨by decide, cm (by omega) (by omega) h0 (by omega), cm c0 (by omega) (by omega) (by omega), cm h0 (by omega) (by omega) (by omega), pow_bd (by decide) (by decide) (by omega) (by omega), gets_pr rfl q0 q1 fun p p0 p1 => ?_⟩
    generalize (c % 1000000007 * (2 * a + 69069) + a * 40503 + 977) ^ 3 = x1
    simp
    refine ⟨p0, ?_⟩
    have f0 : 0 ≤ x1 % p := Int.emod_nonneg _ (by omega)
    have f1 : x1 % p < p := Int.emod_lt_of_pos _ p0
    generalize x1 % p = y1 at f0 f1 ⊢
    have m2 := mul_bd (x := y1) (y := a + 3) (a := 2147483647) (b := 2147483650) f0 (by omega) (by omega) (by omega)
    refine ⟨cm (by omega) (by omega) (by omega) (by omega), pow_bd (by decide) (by decide) (by omega) (by omega), gets_pr rfl q2 q3 fun p2 p20 p21 => ?_⟩
    generalize (y1 * (a + 3) + c % 65537 + 5) ^ 5 = x2
    simp
    refine ⟨p20, ?_⟩
    have g0 : 0 ≤ x2 % p2 := Int.emod_nonneg _ (by omega)
    have g1 : x2 % p2 < p2 := Int.emod_lt_of_pos _ p20
    generalize x2 % p2 = y2 at g0 g1 ⊢
    have w0 : 0 ≤ y1 % 1009 := Int.emod_nonneg _ (by decide)
    have w1 : y1 % 1009 < 1009 := Int.emod_lt_of_pos _ (by decide)
    refine ⟨pow_bd (by decide) (by decide) (by omega) (by omega), gets_pr rfl q4 q5 fun p3 p30 p31 => ?_⟩
    generalize (y2 + y1 % 1009 + a) ^ 3 = x3
    simp
    refine ⟨p30, cm (by omega) (by omega) (by omega) (by omega), cm (by omega) (by omega) (by omega) (by omega), h _⟩
theorem p_take (as : List Dk.Arg) (pn : Option Pen) (Q : D → Option Pen → Prop) (h : spTake as pn Q) : t_q17 spSpread { nx := fun ρ => Q .none ρ.pn, rt := Q } ⟨startD 5 as, pn⟩ := by
  obtain ⟨p, n, b, rfl, rfl, ⟨b0, b1⟩, n0, n1, h⟩ := h
  unfold t_q17
  have k1 : CPow 10 17 := by decide
  have tail : ∀ c : Int, spSpread [.val (.int c), .val (.int p.at_)] (some ⟨p.cells, p.at_ + 1, p.cur⟩) fun d pn' => gets pn' fun p => gets (D.int? d) fun z => 0 < n ∧ CDivW z n ∧ Q (.int (z % n)) (some { cells := p.cells, at_ := p.at_, cur := z / n }) := fun c =>
    ⟨c, p.at_, rfl, b0, by omega, fun r => ⟨n0, cdiv n0 n1, h _ _ (Int.emod_nonneg _ (by omega)) (Int.emod_lt_of_pos _ n0) ⟨by show 0 ≤ p.at_ + 1; omega, by show p.at_ + 1 + b ≤ _; omega⟩⟩⟩
  have tl : ∀ d ∈ List.map PyData.int p.cells, ∃ c : Int, d = PyData.int c := fun d hd => by
    obtain ⟨c, _, rfl⟩ := List.mem_map.mp hd
    exact ⟨c, rfl⟩
  simp [k1]
  split
  · split
    · rename_i h3
      refine gets_at b0 (by simpa using h3) fun d hd => ?_
      obtain ⟨c, rfl⟩ := tl d hd
      exact tail c
    · split
      · rename_i h4
        refine ⟨cm b0 (by omega) (by decide) (by decide), h4, gets_at (Int.emod_nonneg _ (by omega)) (by rw [List.length_map]; exact Int.emod_lt_of_pos _ (by omega)) fun d hd => ?_⟩
        obtain ⟨c, rfl⟩ := tl d hd
        simp
        exact ⟨by omega, tail _⟩
      · exact tail 0
  · exact ⟨n0, cdiv n0 n1, h _ _ (Int.emod_nonneg _ (by omega)) (Int.emod_lt_of_pos _ n0) ⟨b0, by show p.at_ + b ≤ _; omega⟩⟩
theorem p_open (as : List Dk.Arg) (pn : Option Pen) (Q : D → Option Pen → Prop) (h : spOpen as pn Q) : t_q19 { nx := fun ρ => Q .none ρ.pn, rt := Q } ⟨startD 4 as, pn⟩ := by
  obtain ⟨ns, rfl, rfl, h⟩ := h
  unfold t_q19
  simp
  have e1 : cutD (ns.map PyData.int) none (some 12) = (ns.take 12).map .int := by rw [List.map_take]; exact cut0 _ 12
  have e2 : ∀ d ∈ cutD (ns.map PyData.int) (some 12) (some 63), (∃ z : Int, d = .int z) ∧ 12 < ns.length := fun d hd => by
    rw [show cutD (ns.map PyData.int) (some 12) (some 63) = _ from cutN _ 12 63] at hd
    have h1 := List.mem_of_mem_drop (List.mem_of_mem_take hd)
    obtain ⟨z, _, rfl⟩ := List.mem_map.mp h1
    refine ⟨⟨z, rfl⟩, ?_⟩
    have := List.length_pos_of_mem hd
    simp at this
    omega
  rw [e1]
  refine ⟨rfl, fun _ => ?_⟩
  refine forW_inv (fun i ρ => ∃ (cells : List Int) (x2 x3 : Sl), cells.length = min 12 ns.length ∧ ρ = ⟨[.scr ns, .own (cells.map .int), x2, x3], none⟩) ?_ ?_ ⟨ns.take 12, .un, .un, by simp, rfl⟩
  · rintro i d ρ hi ⟨cells, x2, x3, hc, rfl⟩ N hN
    rw [enumL_get] at hi
    obtain ⟨c, h1, h2⟩ := Option.map_eq_some_iff.mp hi
    obtain ⟨⟨z, rfl⟩, hl⟩ := e2 c (List.mem_of_getElem? h1)
    subst h2
    have j0 : (0 : Int) ≤ ((0 + i : Nat) : Int) % 12 := Int.emod_nonneg _ (by decide)
    have j1 : ((0 + i : Nat) : Int) % 12 < 12 := Int.emod_lt_of_pos _ (by decide)
    simp at j0 j1 ⊢
    refine gets_at j0 (by rw [List.length_map]; omega) fun e he => ?_
    obtain ⟨y, _, rfl⟩ := List.mem_map.mp he
    simp
    refine gets_ixN j0 (by omega) ?_
    exact hN _ ⟨cells.set ((i : Int) % 12).toNat (y + z), _, _, by simpa using hc, by rw [List.map_set]⟩
  · rintro ρ ⟨cells, x2, x3, hc, rfl⟩
    simp
    exact h cells
theorem p_one_of (as : List Dk.Arg) (pn : Option Pen) (Q : D → Option Pen → Prop) (h : spOneOf as pn Q) : t_q11 spTake { nx := fun ρ => Q .none ρ.pn, rt := Q } ⟨startD 2 as, pn⟩ := by
  obtain ⟨p, a, ds, b, rfl, ha, rfl, hb, hne, hl, h⟩ := h
  unfold t_q11
  have hpos : 0 < ds.length := List.length_pos_iff.mpr hne
  have key : ∀ (k : D → Option Pen → Prop), (∀ (i : Int) p', 0 ≤ i → i < ds.length → Bud p' b → k (.int i) (some p')) → spTake [.pen, .val (.int ds.length)] (some p) k := fun k hk => ⟨p, ds.length, b, rfl, rfl, hb, by omega, by omega, hk⟩
  cases a with
  | pen => cases ha
  | scr ns => cases ha
  | ref a => cases ha
  | bor xs =>
    cases ha
    simp
    refine key _ fun i p' h0 h1 hb' => ?_
    simp
    exact gets_at h0 h1 fun d hd => h d hd p' hb'
  | val d =>
    cases d with
    | list xs =>
      cases ha
      simp
      refine key _ fun i p' h0 h1 hb' => ?_
      simp
      exact gets_at h0 h1 fun d hd => h d hd p' hb'
    | tuple xs =>
      cases ha
      simp
      refine key _ fun i p' h0 h1 hb' => ?_
      simp
      exact gets_at h0 h1 fun d hd => h d hd p' hb'
    | _ => cases ha
theorem gI_at {xs : List Int} {i : Int} (h0 : 0 ≤ i) (h1 : i < xs.length) (K : D → Prop) : gets (atI (xs.map PyData.int) i) K = K (.int (gI xs i.toNat)) := by
  refine atRi h0 ?_ K
  rw [List.getElem?_map, List.getElem?_eq_getElem (by omega), show gI xs i.toNat = xs[i.toNat]'(by omega) from gI_of (List.getElem?_eq_getElem (by omega))]
  rfl
theorem gI_mem0 {xs : List Int} {i : Int} (h0 : 0 ≤ i) (h1 : i < xs.length) : gI xs i.toNat ∈ xs := by
  rw [show gI xs i.toNat = xs[i.toNat]'(by omega) from gI_of (List.getElem?_eq_getElem (by omega))]
  exact List.getElem_mem _
theorem ints_R {lo hi : Int} {acc : List D} (hR : ∀ d ∈ acc, ∃ x : Int, d = .int x ∧ lo ≤ x ∧ x ≤ hi) : ∃ ns : List Int, acc = ns.map .int ∧ ∀ x ∈ ns, lo ≤ x ∧ x ≤ hi := by
  refine ⟨acc.map toI, ?_, fun x hx => ?_⟩
  · have : acc.all isIntD = true := List.all_eq_true.mpr fun d hd => by
      obtain ⟨x, rfl, _⟩ := hR d hd
      rfl
    exact isInt_map this
  · obtain ⟨d, hd, rfl⟩ := List.mem_map.mp hx
    obtain ⟨x, rfl, h0, h1⟩ := hR d hd
    exact ⟨h0, h1⟩
theorem pick_R {α : Type} {g : α → D} {p : α → Prop} : ∀ {L : List D}, (∀ d ∈ L, ∃ a, d = g a ∧ p a) → ∃ as : List α, L = as.map g ∧ ∀ a ∈ as, p a
  | [], _ => ⟨[], rfl, fun a h => by cases h⟩
  | d :: L, h => by
    obtain ⟨as, rfl, ha⟩ := pick_R fun e he => h e (List.mem_cons_of_mem _ he)
    obtain ⟨a, rfl, hp⟩ := h d List.mem_cons_self
    exact ⟨a :: as, rfl, fun x hx => by
      rcases List.mem_cons.mp hx with rfl | hx
      · exact hp
      · exact ha x hx⟩
theorem p_draw_scheme (as : List Dk.Arg) (pn : Option Pen) (Q : D → Option Pen → Prop) (h : spDrawSch as pn Q) : t_q1 spTake { nx := fun ρ => Q .none ρ.pn, rt := Q } ⟨startD 2 as, pn⟩ := by
  obtain ⟨p, b, rfl, rfl, hb, h⟩ := h
  have hz : sizeLine = 16777216 := sizeLine_eq
  unfold t_q1
  simp -implicitDefEqProofs [wipeD]
  refine ⟨p, 4, b + 4, rfl, rfl, hb, by decide, by decide, fun z p1 z0 z1 hp1 => ?_⟩
  obtain ⟨n, e, n1, n4⟩ : ∃ n : Nat, 1 + z = (n : Int) ∧ 1 ≤ n ∧ n ≤ 4 := ⟨(1 + z).toNat, by omega, by omega, by omega⟩
  simp -implicitDefEqProofs [wipeD, e]
  refine ⟨by omega, fun _ => ?_⟩
  refine lcW_draw (fun d => ∃ x : Int, d = .int x ∧ 1 ≤ x ∧ x ≤ 3) n b 1 (by simp [rangeD_len]) rfl (bud_le hp1 (by omega)) (fun i d hi q b' hq hb' N hN => ?_) (fun acc q hl hR hq => ?_)
  · simp -implicitDefEqProofs
    refine ⟨q, 3, b', rfl, rfl, hq, by decide, by decide, fun y q1 y0 y1 hq1 => ?_⟩
    simp -implicitDefEqProofs [wipeD]
    exact hN _ _ ⟨1 + y, rfl, by omega, by omega⟩ hq1
  · obtain ⟨sc, rfl, hsc⟩ := ints_R hR
    rw [List.length_map] at hl
    simp -implicitDefEqProofs [unwipe, keepV, wipeD, -List.map_map]
    exact h sc q ⟨by omega, by omega, hsc⟩ hq
theorem p_draw_column (as : List Dk.Arg) (pn : Option Pen) (Q : D → Option Pen → Prop) (h : spDrawCol as pn Q) : t_q2 spTake { nx := fun ρ => Q .none ρ.pn, rt := Q } ⟨startD 4 as, pn⟩ := by
  obtain ⟨p, sc, occ, b, rfl, S, o1, o3, hoc, rfl, hb, h⟩ := h
  unfold t_q2
  simp -implicitDefEqProofs [tupI]
  refine ⟨p, occ.length, b + 1, rfl, rfl, hb, by omega, by omega, fun i p1 i0 i1 hp1 => ?_⟩
  have hm := hoc _ (gI_mem0 i0 i1)
  have q1 := gI_at i0 i1
  have q2 := gI_at hm.1 hm.2
  have hc := S.c _ (gI_mem0 hm.1 hm.2)
  simp -implicitDefEqProofs [↓q1, ↓q2]
  refine ⟨p1, _, b, rfl, rfl, hp1, by omega, by omega, fun j p2 j0 j1 hp2 => ?_⟩
  simp -implicitDefEqProofs
  exact h (i, j) p2 ⟨i0, i1, j0, j1⟩ hp2
theorem sort_two (c c' : Col) : ∃ x y : Col, sortD [colD c, colD c'] = [colD x, colD y] ∧ ((x = c ∧ y = c') ∨ (x = c' ∧ y = c)) := by
  have hp : (sortD [colD c, colD c']).Perm [colD c, colD c'] := List.mergeSort_perm _ _
  obtain ⟨M, e, pm⟩ := perm_unmap (f := colD) (L := [c, c']) hp
  have hl := pm.length_eq
  match M, hl, pm, e with
  | [x, y], _, pm, e =>
    refine ⟨x, y, e, ?_⟩
    have hx : x ∈ [c, c'] := pm.mem_iff.mp (by simp)
    simp only [List.mem_cons, List.not_mem_nil, or_false] at hx
    rcases hx with rfl | rfl
    · have := (List.perm_cons x).mp pm
      exact .inl ⟨rfl, by simpa using this⟩
    · have := (List.perm_cons x).mp (pm.trans (List.Perm.swap _ _ _))
      exact .inr ⟨rfl, by simpa using this⟩
theorem p_draw_query (as : List Dk.Arg) (pn : Option Pen) (Q : D → Option Pen → Prop) (h : spDrawQy as pn Q) : t_q4 spTake spOneOf spDrawCol { nx := fun ρ => Q .none ρ.pn, rt := Q } ⟨startD 13 as, pn⟩ := by
  obtain ⟨p, sc, most, b, rfl, S, m1, m3, rfl, hb, h⟩ := h
  have hz : sizeLine = 16777216 := sizeLine_eq
  have l1 := S.l1
  have l4 := S.l4
  unfold t_q4
  simp -implicitDefEqProofs [wipeD]
  refine ⟨p, most, b + 59, rfl, rfl, hb, by omega, by omega, fun z p1 z0 z1 hp1 => ?_⟩
  obtain ⟨n, e, n1, n4⟩ : ∃ n : Nat, 1 + z = (n : Int) ∧ 1 ≤ n ∧ n ≤ most := ⟨(1 + z).toNat, by omega, by omega, by omega⟩
  simp -implicitDefEqProofs [wipeD, e]
  refine ⟨by omega, fun _ => ?_⟩
  refine lcW_draw (fun d => ∃ x : Int, d = .int x ∧ 0 ≤ x ∧ x ≤ (sc.length : Int) - 1) n (b + 50) 1 (by simp [rangeD_len]) rfl (bud_le hp1 (by omega)) (fun i d hi q b' hq hb' N hN => ?_) (fun acc q hl hR hq => ?_)
  · simp -implicitDefEqProofs [tupI]
    refine ⟨q, sc.length, b', rfl, rfl, hq, by omega, by omega, fun y q1 y0 y1 hq1 => ?_⟩
    simp -implicitDefEqProofs [wipeD]
    exact hN _ _ ⟨y, rfl, by omega, by omega⟩ hq1
  obtain ⟨occ, rfl, hoc0⟩ := ints_R hR
  rw [List.length_map] at hl
  have hoc : ∀ o ∈ occ, 0 ≤ o ∧ o < sc.length := fun o ho => by have := hoc0 o ho; omega
  simp -implicitDefEqProofs [unwipe, keepV, wipeD, -List.map_map]
  refine ⟨q, _, _, b + 49, rfl, rfl, rfl, bud_le hq (by omega), by simp, by simp, fun d0 hd0 q1 hq1 => ?_⟩
  obtain ⟨nb, rfl, nb4⟩ : ∃ nb : Nat, d0 = .int (nb : Int) ∧ nb ≤ 4 := by
    simp only [List.mem_cons, List.not_mem_nil, or_false] at hd0
    rcases hd0 with rfl | rfl | rfl | rfl | rfl | rfl
    · exact ⟨0, rfl, by decide⟩
    · exact ⟨0, rfl, by decide⟩
    · exact ⟨1, rfl, by decide⟩
    · exact ⟨1, rfl, by decide⟩
    · exact ⟨2, rfl, by decide⟩
    · exact ⟨4, rfl, by decide⟩
  simp -implicitDefEqProofs
  refine ⟨by omega, fun _ => ?_⟩
  refine forW_inv (fun i ρ => ∃ (bs : List Bnd) (x4 x10 x11 : Sl) (q : Pen), ρ = ⟨[.pen, .val (tupI sc), .val (.int most), .val (.tuple (occ.map .int)), x4, .un, .un, .un, .own (bs.map bndD), .own [], x10, x11, .un], some q⟩ ∧ bs.length = i ∧ i ≤ nb ∧ (∀ b ∈ bs, BndOk sc occ b) ∧ Bud q (b + 29 + 4 * (4 - i))) ?_ ?_
    ⟨[], _, _, _, q1, rfl, rfl, by omega, by simp, bud_le hq1 (by omega)⟩
  · rintro i d ρ hi ⟨bs, x4, x10, x11, q2, rfl, hbl, hin, hbs, hq2⟩ N hN
    obtain ⟨hlt, rfl⟩ := rangeD_get hi
    simp -implicitDefEqProofs
    refine ⟨q2, _, _, b + 29 + 4 * (4 - (i + 1)) + 3, rfl, rfl, rfl, bud_le hq2 (by omega), by simp, by simp, fun dw hdw q3 hq3 => ?_⟩
    obtain ⟨w, rfl, hw⟩ : ∃ w : Str, dw = .str w ∧ isWd w := by
      simp only [List.mem_cons, List.not_mem_nil, or_false] at hdw
      rcases hdw with rfl | rfl
      · exact ⟨_, rfl, .inl rfl⟩
      · exact ⟨_, rfl, .inr rfl⟩
    have cont : ∀ (k : Int) (q4 : Pen), 0 ≤ k → k ≤ 99 → Bud q4 (b + 29 + 4 * (4 - (i + 1)) + 2) →
        spDrawCol [.pen, .val (tupI sc), .val (.tuple (occ.map .int))] (some q4) fun d1 pn' => bs.length < sizeLine ∧ N ⟨[.pen, .val (tupI sc), .val (.int most), .val (.tuple (occ.map .int)), .val (.int i), .un, .un, .un, .own (bs.map bndD ++ [.tuple [d1, .str w, .int k]]), .own [], .val (.str w), .val (.int k), .un], pn'⟩ := fun k q4 k0 k1 hq4 => by
      refine ⟨q4, sc, occ, b + 29 + 4 * (4 - (i + 1)), rfl, S, by omega, by omega, hoc, rfl, hq4, fun c q5 hc hq5 => ⟨by omega, ?_⟩⟩
      rw [show bs.map bndD ++ [PyData.tuple [colD c, .str w, .int k]] = (bs ++ [(c, w, k)]).map bndD by rw [List.map_append]; rfl]
      refine hN _ ⟨bs ++ [(c, w, k)], _, _, _, q5, rfl, by simp [hbl], by omega, fun x hx => ?_, hq5⟩
      rcases List.mem_append.mp hx with hx | hx
      · exact hbs x hx
      · rw [List.mem_singleton.mp hx]
        exact ⟨hc, hw, k0, k1⟩
    have small : ∀ d ∈ ([.int 0, .int 1, .int 1, .int 2, .int 50, .int 99] : List D) ++ [.int 0, .int 1, .int 2, .int 2, .int 50, .int 99], ∃ k : Int, d = .int k ∧ 0 ≤ k ∧ k ≤ 99 := fun d hd => by
      simp only [List.cons_append, List.nil_append, List.mem_cons, List.not_mem_nil, or_false] at hd
      rcases hd with rfl | rfl | rfl | rfl | rfl | rfl | rfl | rfl | rfl | rfl | rfl | rfl <;> exact ⟨_, rfl, by decide, by decide⟩
    try simp -implicitDefEqProofs
    refine ⟨rfl, ?_⟩
    split
    · refine ⟨q3, _, _, b + 29 + 4 * (4 - (i + 1)) + 2, rfl, rfl, rfl, hq3, by simp, by simp, fun d hd q4 hq4 => ?_⟩
      obtain ⟨k, rfl, k0, k1⟩ := small d (List.mem_append_left _ hd)
      exact cont k q4 k0 k1 hq4
    · refine ⟨q3, _, _, b + 29 + 4 * (4 - (i + 1)) + 2, rfl, rfl, rfl, hq3, by simp, by simp, fun d hd q4 hq4 => ?_⟩
      obtain ⟨k, rfl, k0, k1⟩ := small d (List.mem_append_right _ hd)
      exact cont k q4 k0 k1 hq4
  · rintro ρ ⟨bs, x4, x10, x11, q2, rfl, hbl, hin, hbs, hq2⟩
    rw [rangeD_len] at hbl
    simp -implicitDefEqProofs
    refine ⟨q2, _, _, b + 28, rfl, rfl, rfl, bud_le hq2 (by omega), by simp, by simp, fun d0 hd0 q3 hq3 => ?_⟩
    obtain ⟨ne, rfl, ne3⟩ : ∃ ne : Nat, d0 = .int (ne : Int) ∧ ne ≤ 3 := by
      simp only [List.mem_cons, List.not_mem_nil, or_false] at hd0
      rcases hd0 with rfl | rfl | rfl | rfl | rfl | rfl
      · exact ⟨0, rfl, by decide⟩
      · exact ⟨1, rfl, by decide⟩
      · exact ⟨1, rfl, by decide⟩
      · exact ⟨2, rfl, by decide⟩
      · exact ⟨2, rfl, by decide⟩
      · exact ⟨3, rfl, by decide⟩
    simp -implicitDefEqProofs
    refine ⟨by omega, fun _ => ?_⟩
    refine forW_inv (fun i ρ => ∃ (es : List Eql) (x4 x12 : Sl) (q : Pen), ρ = ⟨[.pen, .val (tupI sc), .val (.int most), .val (.tuple (occ.map .int)), x4, .un, .un, .un, .own (bs.map bndD), .own (es.map eqlD), x10, x11, x12], some q⟩ ∧ es.length ≤ i ∧ i ≤ ne ∧ (∀ e ∈ es, EqlOk sc occ e) ∧ Bud q (b + 16 + 4 * (3 - i))) ?_ ?_
      ⟨[], _, _, q3, rfl, by simp, by omega, by simp, bud_le hq3 (by omega)⟩
    · rintro i d ρ hi ⟨es, x4, x12, q4, rfl, hel, hin, hes, hq4⟩ N hN
      obtain ⟨hlt, rfl⟩ := rangeD_get hi
      simp -implicitDefEqProofs
      refine ⟨q4, sc, occ, b + 16 + 4 * (3 - (i + 1)) + 2, rfl, S, by omega, by omega, hoc, rfl, bud_le hq4 (by omega), fun c q5 hc hq5 => ?_⟩
      refine ⟨q5, sc, occ, b + 16 + 4 * (3 - (i + 1)), rfl, S, by omega, by omega, hoc, rfl, hq5, fun c' q6 hc' hq6 => ?_⟩
      obtain ⟨x, y, e2, hxy⟩ := sort_two c c'
      have hx : ColOk sc occ x := by rcases hxy with ⟨rfl, rfl⟩ | ⟨rfl, rfl⟩ <;> assumption
      have hy : ColOk sc occ y := by rcases hxy with ⟨rfl, rfl⟩ | ⟨rfl, rfl⟩ <;> assumption
      simp -implicitDefEqProofs [e2]
      refine ⟨(cols_ok [c, c']).2, ?_⟩
      unfold colD
      simp -implicitDefEqProofs
      split
      · rename_i hlt2
        refine ⟨by omega, ?_⟩
        rw [show es.map eqlD ++ [PyData.tuple [.tuple [.int x.1, .int x.2], .tuple [.int y.1, .int y.2]]] = (es ++ [(x, y)]).map eqlD by rw [List.map_append]; rfl]
        refine hN _ ⟨es ++ [(x, y)], _, _, q6, rfl, by simp; omega, by omega, fun z hz => ?_, hq6⟩
        rcases List.mem_append.mp hz with hz | hz
        · exact hes z hz
        · rw [List.mem_singleton.mp hz]
          exact ⟨hx, hy, hlt2⟩
      · exact hN _ ⟨es, _, _, q6, rfl, by omega, by omega, hes, hq6⟩
    · rintro ρ ⟨es, x4, x12, q4, rfl, hel, hin, hes, hq4⟩
      rw [rangeD_len] at hel
      simp -implicitDefEqProofs
      refine ⟨q4, 3, b + 15, rfl, rfl, bud_le hq4 (by omega), by decide, by decide, fun gz q5 g0 g1 hq5 => ⟨rfl, ?_⟩⟩
      obtain ⟨bs2, eb, mb, ub, lb⟩ := nset_map (bnds_ok bs)
      obtain ⟨es2, ee, me, ue, le⟩ := nset_map (eqls_ok es)
      have tail : ∀ (grp : Option Col) (us : List Col) (q : Pen), (∀ c, grp = some c → ColOk sc occ c ∧ us = []) → us.length ≤ 4 → (∀ c ∈ us, ColOk sc occ c) → Bud q b → Q (.tuple [.tuple (occ.map .int), .tuple (bs2.map bndD), .tuple (es2.map eqlD), .tuple (us.map colD), grpD grp]) (some q) := fun grp us q hg hu4 hu hq =>
        h ⟨occ, bs2, es2, us, grp⟩ q ⟨by show 1 ≤ occ.length; omega, by show occ.length ≤ most; omega, hoc, by show bs2.length ≤ 4; omega, fun x hx => hbs x (mb x hx), ub, by show es2.length ≤ 3; omega, fun x hx => hes x (me x hx), ue, hu4, hu, hg⟩ hq
      have fin : ∀ (grp : Option Col) (many : Nat) (q : Pen) (r : Sl), many ≤ 4 → (grp ≠ none → many = 0) → (∀ c, grp = some c → ColOk sc occ c) → Bud q (b + 9) →
          lcW { ks := [], f := fun _ => some (rangeD 0 many) } (rangeD 0 many) (gN 4) dYes (oVal (dCall 3 spDrawCol (aCons (oSlot 0) (aCons (oSlot 1) (aCons (oSlot 3) aNil))))) [4]
            (fun acc ρ2 => aNil ⟨unwipe [.pen, .val (tupI sc), .val (.int most), .val (.tuple (occ.map .int)), x4, .val (grpD grp), .val (.int many), .un, .own (bs.map bndD), .own (es.map eqlD), x10, x11, x12] ρ2.sl [4], ρ2.pn⟩ fun ks ρ2 => gets (rds ρ2 ks) fun ds => gets (tupleD (PyData.list acc :: ds)) fun r =>
              dRet (dDisp mkT (aCons (oVal (dVar 3)) (aCons (oVal (dCB tupleD (aCons (tmpD (dUn nsetD (oSlot 8))) aNil))) (aCons (oVal (dCB tupleD (aCons (tmpD (dUn nsetD (oSlot 9))) aNil))) (aCons (oVal (dVar 7)) (aCons (oVal (dVar 5)) aNil)))))) { nx := fun ρ => Q PyData.none ρ.pn, rt := Q } ⟨ρ2.sl.set 7 r.sl, ρ2.pn⟩)
            (rangeD 0 many) [] ⟨wipeD [.pen, .val (tupI sc), .val (.int most), .val (.tuple (occ.map .int)), x4, .val (grpD grp), .val (.int many), .un, .own (bs.map bndD), .own (es.map eqlD), x10, x11, x12] [4], some q⟩ := by
        intro grp many q r hm4 hgm hgc hq
        simp -implicitDefEqProofs [wipeD]
        refine lcW_draw (fun d => ∃ c, d = colD c ∧ ColOk sc occ c) many b 2 (by simp [rangeD_len]) rfl (bud_le hq (by omega)) (fun i d hi q b' hq hb' N hN => ?_) (fun acc q hl2 hR2 hq => ?_)
        · simp -implicitDefEqProofs
          refine ⟨q, sc, occ, b', rfl, S, by omega, by omega, hoc, rfl, hq, fun c q5 hc hq5 => ?_⟩
          simp -implicitDefEqProofs [wipeD]
          exact hN _ _ ⟨c, rfl, hc⟩ hq5
        · obtain ⟨us, rfl, hus⟩ := pick_R hR2
          rw [List.length_map] at hl2
          simp -implicitDefEqProofs [unwipe, keepV, wipeD, eb, ee]
          refine ⟨⟨⟨(bnds_ok bs).1, by rw [List.length_map]; omega⟩, (bnds_ok bs).2⟩, ⟨⟨(eqls_ok es).1, by rw [List.length_map]; omega⟩, (eqls_ok es).2⟩, ?_⟩
          refine tail grp us q (fun c hc => ⟨hgc c hc, ?_⟩) (by omega) hus hq
          have := hgm (by rw [hc]; simp)
          exact List.length_eq_zero_iff.mp (by omega)
      have many6 : ∀ d ∈ ([.int 0, .int 1, .int 1, .int 2, .int 2, .int 4] : List D), ∃ k : Nat, d = .int (k : Int) ∧ k ≤ 4 := fun d hd => by
        simp only [List.mem_cons, List.not_mem_nil, or_false] at hd
        rcases hd with rfl | rfl | rfl | rfl | rfl | rfl
        · exact ⟨0, rfl, by decide⟩
        · exact ⟨1, rfl, by decide⟩
        · exact ⟨1, rfl, by decide⟩
        · exact ⟨2, rfl, by decide⟩
        · exact ⟨2, rfl, by decide⟩
        · exact ⟨4, rfl, by decide⟩
      split
      · refine ⟨q5, sc, occ, b + 12, rfl, S, by omega, by omega, hoc, rfl, bud_le hq5 (by omega), fun c q6 hc hq6 => ?_⟩
        refine ⟨q6, _, _, b + 11, rfl, rfl, rfl, hq6, by simp, by simp, fun d hd q7 hq7 => ?_⟩
        obtain ⟨k, rfl, k4⟩ := many6 d hd
        simp -implicitDefEqProofs [colD, isNone]
        refine ⟨cmul (Nat.lt_of_le_of_lt (show (k : Int).natAbs ≤ 4 by omega) (by decide +kernel)) (by decide +kernel), ?_⟩
        exact fin (some c) 0 q7 .un (by omega) (fun _ => rfl) (fun c' e => by cases e; exact hc) (bud_le hq7 (by omega))
      · refine ⟨q5, _, _, b + 11, rfl, rfl, rfl, bud_le hq5 (by omega), by simp, by simp, fun d hd q7 hq7 => ?_⟩
        obtain ⟨k, rfl, k4⟩ := many6 d hd
        simp -implicitDefEqProofs [isNone]
        refine ⟨cmul (Nat.lt_of_le_of_lt (show (k : Int).natAbs ≤ 4 by omega) (by decide +kernel)) (by decide +kernel), by omega, fun _ => ?_⟩
        exact fin none k q7 .un k4 (fun z => absurd rfl z) (fun c' e => by cases e) (bud_le hq7 (by omega))
theorem perm_tups {L : List D} {rows : Tbl} (h : L.Perm (rows.map tupI)) : ∃ rs : Tbl, L = rs.map tupI ∧ rs.Perm rows := perm_unmap h
theorem sort_tupsP {L : Tbl} {n : Nat} (hn : n ≠ 0) (h : ∀ r ∈ L, r.length = n) : sortOk (L.map tupI) := by
  refine ⟨fun d hd e he => ?_, .inl fun d hd => ?_, fun d hd => ?_⟩
  · obtain ⟨a, ha, rfl⟩ := List.mem_map.mp hd
    obtain ⟨b, hb, rfl⟩ := List.mem_map.mp he
    unfold tupI
    rw [PySem.W.alike]
    exact alike_ints (by rw [h a ha, h b hb])
  · obtain ⟨a, ha, rfl⟩ := List.mem_map.mp hd
    match a, h a ha with
    | [], e => exact absurd e.symm hn
    | x :: r, _ => exact ⟨_, _, rfl⟩
  · obtain ⟨a, ha, rfl⟩ := List.mem_map.mp hd
    have := depth_tupI (ns := a)
    omega
def RowOk (c : Int) (r : List Int) : Prop := (r.length : Int) = c ∧ ∀ x ∈ r, 0 ≤ x ∧ x ≤ 99
def spDrawDbQ : DSp := fun as pn P => ∃ (p : Pen) (sch : List Int) (most b : Nat), as = [.pen, .val (tupI sch), .val (.int most)] ∧ SchOk sch ∧ 1 ≤ most ∧ most ≤ 10 ∧ pn = some p ∧ Bud p (b + 210) ∧ ∀ db p', DbOk sch most db → Bud p' b → P (dbsD db) (some p')
theorem p_draw_database (as : List Dk.Arg) (pn : Option Pen) (Q : D → Option Pen → Prop) (h : spDrawDbQ as pn Q) : t_q0 spOneOf spTake { nx := fun ρ => Q .none ρ.pn, rt := Q } ⟨startD 10 as, pn⟩ := by
  obtain ⟨p, sch, most, b, rfl, S, m1, m10, rfl, hb, h⟩ := h
  unfold t_q0
  have hz : sizeLine = 16777216 := sizeLine_eq
  have s1 := S.l4
  simp -implicitDefEqProofs [wipeD]
  refine ⟨p, _, [.int 2, .int 3, .int 3, .int 100], b + 209, rfl, rfl, rfl, hb, by simp, by simp, fun d hd p1 hp1 => ?_⟩
  obtain ⟨g, rfl, g0, g1⟩ : ∃ g : Int, d = .int g ∧ 1 ≤ g ∧ g ≤ 100 := by
    simp at hd
    rcases hd with rfl | rfl | rfl <;> exact ⟨_, rfl, by decide, by decide⟩
  simp -implicitDefEqProofs [wipeD, oFix, tupI, -List.map_map]
  refine ⟨rfl, fun _ => ?_⟩
  refine forW_inv (fun i ρ => ∃ (q : Pen) (rss : Dbs) (x3 x6 x7 x8 x9 : Sl), ρ = ⟨[.pen, .val (.tuple (sch.map .int)), .val (.int most), x3, .val (.int g), .own (rss.map tblD), x6, x7, x8, x9], some q⟩ ∧ rss.length = i ∧ i ≤ sch.length ∧ (∀ (j : Nat) (t : Tbl), rss[j]? = some t → t.length ≤ most ∧ ∀ r ∈ t, RowOk (gI sch j) r) ∧ Bud q (b + 52 * (sch.length - i))) ?_ ?_ ⟨p1, [], _, _, _, _, _, rfl, rfl, Nat.zero_le _, (fun j t hr => by simp at hr), bud_le hp1 (by omega)⟩
  · rintro i d ρ hi ⟨q, rss, x3, x6, x7, x8, x9, rfl, hl, hle, hR, hq⟩ N hN
    rw [List.getElem?_map] at hi
    obtain ⟨c, hc, rfl⟩ := Option.map_eq_some_iff.mp hi
    have hil := (List.getElem?_eq_some_iff.mp hc).1
    have hgc : gI sch i = c := by unfold gI; rw [List.getD_eq_getElem?_getD, hc]; rfl
    obtain ⟨c0, c1⟩ := S.c c (List.mem_of_getElem? hc)
    simp -implicitDefEqProofs [wipeD, -List.map_map]
    refine ⟨q, most + 1, b + 52 * (sch.length - (i + 1)) + 51, rfl, rfl, bud_le hq (by omega), by omega, by omega, fun n q1 n0 n1 hq1 => ?_⟩
    simp -implicitDefEqProofs [wipeD, -List.map_map]
    refine ⟨by omega, fun _ => ?_⟩
    refine forW_inv (fun j ρ => ∃ (q : Pen) (rows : Tbl) (x7 x8 x9 : Sl), ρ = ⟨[.pen, .val (.tuple (sch.map .int)), .val (.int most), .val (.int c), .val (.int g), .own (rss.map tblD), .own (rows.map tupI), x7, x8, x9], some q⟩ ∧ rows.length = j ∧ j ≤ n.toNat ∧ (∀ r ∈ rows, RowOk c r) ∧ Bud q (b + 52 * (sch.length - (i + 1)) + 1 + 5 * (n.toNat - j))) ?_ ?_ ⟨q1, [], _, _, _, rfl, rfl, Nat.zero_le _, (fun rs hr => by cases hr), bud_le hq1 (by omega)⟩
    · rintro j d ρ hj ⟨q, rows, x7, x8, x9, rfl, hl2, hle2, hR2, hq⟩ N2 hN2
      obtain ⟨hjl, rfl⟩ := rangeD_get hj
      simp -implicitDefEqProofs [wipeD, -List.map_map]
      refine ⟨by omega, fun _ => ?_⟩
      refine lcW_draw (fun d => ∃ x : Int, d = .int x ∧ 0 ≤ x ∧ x ≤ 99) c.toNat (b + 52 * (sch.length - (i + 1)) + 1 + 5 * (n.toNat - (j + 1)) + 2) 1 (by simp [rangeD_len]) rfl (bud_le hq (by omega)) (fun i' d hi' q' b' hq' hb' N3 hN3 => ?_) (fun acc q2 hl3 hR3 hq2 => ?_)
      · simp -implicitDefEqProofs [wipeD, -List.map_map]
        refine ⟨q', g, b', rfl, rfl, hq', by omega, by omega, fun x q3 x0 x1 hq3 => ?_⟩
        simp -implicitDefEqProofs [wipeD, -List.map_map]
        exact hN3 _ _ ⟨_, rfl, by omega, by omega⟩ hq3
      · obtain ⟨ns, rfl, h2⟩ := ints_R hR3
        rw [List.length_map] at hl3
        have hrow : RowOk c ns := ⟨by omega, h2⟩
        have e0 : eqOk (.list (rows.map tupI)) (.list []) = true := by unfold eqOk; rw [show nilE (.list (rows.map tupI)) (.list []) = true from rfl, Bool.or_true]
        have hjn : j + 1 ≤ n.toNat := by omega
        have put : ∀ (r : List Int) (q : Pen) (x9 : Sl), RowOk c r → Bud q (b + 52 * (sch.length - (i + 1)) + 1 + 5 * (n.toNat - (j + 1))) → N2 ⟨[.pen, .val (.tuple (sch.map .int)), .val (.int most), .val (.int c), .val (.int g), .own (rss.map tblD), .own (rows.map tupI ++ [tupI r]), .val (.int j), .val (.tuple (ns.map .int)), x9], some q⟩ := fun r q x9 hd hq => hN2 _ ⟨q, rows ++ [r], .val (.int j), .val (.tuple (ns.map .int)), x9, by rw [List.map_append]; rfl, by simp [hl2], hjn, fun y hy => by
          rcases List.mem_append.mp hy with hy | hy
          · exact hR2 y hy
          · rw [List.mem_singleton.mp hy]; exact hd, hq⟩
        simp -implicitDefEqProofs [unwipe, keepV, wipeD, -List.map_map, e0, eqv_lnil]
        split
        · exact ⟨by omega, put ns _ _ hrow (bud_le hq2 (by omega))⟩
        · rename_i hne
          refine ⟨q2, 4, b + 52 * (sch.length - (i + 1)) + 1 + 5 * (n.toNat - (j + 1)) + 1, rfl, rfl, hq2, by decide, by decide, fun z q3 z0 z1 hq3 => ?_⟩
          simp -implicitDefEqProofs
          split
          · refine ⟨q3, _, rows.map tupI, b + 52 * (sch.length - (i + 1)) + 1 + 5 * (n.toNat - (j + 1)), rfl, rfl, rfl, hq3, by simpa using hne, by rw [List.length_map]; omega, fun d hd q4 hq4 => ?_⟩
            obtain ⟨r, hr, rfl⟩ := List.mem_map.mp hd
            exact ⟨by omega, put r _ _ (hR2 r hr) hq4⟩
          · exact ⟨by omega, put ns _ _ hrow (bud_le hq3 (by omega))⟩
    · rintro ρ ⟨q, rows, x7, x8, x9, rfl, hl2, hle2, hR2, hq⟩
      have hn : (rangeD 0 n.toNat).length = n.toNat := by simp [rangeD_len]
      rw [hn] at hl2 hle2 hq
      have ok : sortOk (rows.map tupI) := sort_tupsP (n := c.toNat) (by omega) fun r hr => by have := (hR2 r hr).1; omega
      obtain ⟨rs, ers, hrs⟩ := perm_tups (List.mergeSort_perm (rows.map tupI) leD0 : (sortD (rows.map tupI)).Perm _)
      have hsl : rs.length = rows.length := hrs.length_eq
      simp -implicitDefEqProofs [wipeD, -List.map_map]
      refine ⟨ok, by omega, ?_⟩
      refine hN _ ⟨q, rss ++ [rs], .val (.int c), .own (rows.map tupI), x7, x8, x9, ?_, by simp [hl], hil, fun k t hk => ?_, bud_le hq (by omega)⟩
      · have ers : sortD (rows.map tupI) = rs.map tupI := ers
        rw [ers, List.map_append]
        rfl
      · rcases get_app hk with hk | ⟨rfl, rfl⟩
        · exact hR k t hk
        · rw [hl, hgc]
          exact ⟨by omega, fun r hr => hR2 r (hrs.mem_iff.mp hr)⟩
  · rintro ρ ⟨q, rss, x3, x6, x7, x8, x9, rfl, hl, hle, hR, hq⟩
    rw [List.length_map] at hl hle hq
    simp -implicitDefEqProofs [wipeD, -List.map_map]
    exact h rss q ⟨hl, hR⟩ (bud_le hq (by omega))
end K84
namespace K84
open PySem PySem.Spec PyProof.Rows L2 Dk
def spSets : DSp := fun as pn P => ∃ (q : Qy) (sc : List Int), as = [.val (qyD q)] ∧ QyOk sc 3 q ∧ ∀ L : List (List Int), L.length ≤ 13 → (∀ so ∈ L, SoOk q so) → P (.list (L.map tupI)) pn
theorem p_law_sets (as : List Dk.Arg) (pn : Option Pen) (Q : D → Option Pen → Prop) (h : spSets as pn Q) : t_q15 { nx := fun ρ => Q .none ρ.pn, rt := Q } ⟨startD 5 as, pn⟩ := by
  obtain ⟨q, sc, rfl, Z, h⟩ := h
  have hz : sizeLine = 16777216 := sizeLine_eq
  have o1 := Z.o1
  have o3 := Z.o3
  have Sall := occs_so Z
  unfold t_q15
  unfold SoOk at h
  unfold occsQ SoOk at Sall
  have eo : (tupI q.occ) = .tuple (q.occ.map .int) := rfl
  simp -implicitDefEqProofs [qyD, eo, wipeD]
  generalize q.occ.length = n at o1 o3 h Sall
  refine ⟨by omega, fun _ => ?_⟩
  refine lcW_map (ts := rngI n) .int (fun i => tupI [i]) range_rng rfl (fun i hi N hN => ?_) ?_
  · simp -implicitDefEqProofs [wipeD]
    exact hN
  simp -implicitDefEqProofs [unwipe, keepV, wipeD, -List.map_map]
  refine ⟨by omega, fun _ => ?_⟩
  rw [range_rng]
  have e0 : (rngI n).map (fun i => tupI [i]) = ((rngI n).map fun i => [i]).map tupI := by rw [List.map_map]; rfl
  rw [e0]
  refine forW_inv (fun i ρ => ∃ (L : List (List Int)) (x3 x4 : Sl), ρ = ⟨[.val (.tuple [tupI q.occ, .tuple (q.bnd.map bndD), .tuple (q.eqs.map eqlD), .tuple (q.out.map colD), grpD q.grp]), .val (.int n), .own (L.map tupI), x3, x4], pn⟩ ∧ L.length ≤ 3 + 3 * i ∧ ∀ so ∈ L, so.length ≤ 3 ∧ ∀ o ∈ so, 0 ≤ o ∧ o < n) ?_ ?_ ⟨_, _, _, rfl, by rw [List.length_map, rngI_len]; omega, fun so hs => by
    obtain ⟨i, hi, rfl⟩ := List.mem_map.mp hs
    refine ⟨by simp, fun o ho => ?_⟩
    rw [List.mem_singleton.mp ho]
    exact rngI_mem hi⟩
  · rintro i d ρ hi ⟨L, x3, x4, rfl, hL, hS⟩ N hN
    rw [List.getElem?_map] at hi
    obtain ⟨a, ha, rfl⟩ := Option.map_eq_some_iff.mp hi
    have hil := (List.getElem?_eq_some_iff.mp ha).1
    rw [rngI_len] at hil
    have ea := rngI_get hil
    rw [ea] at ha
    cases ha
    simp -implicitDefEqProofs [wipeD, -List.map_map]
    refine ⟨by omega, fun _ => ?_⟩
    have hm : ((n : Int) - ((i : Int) + 1)).toNat ≤ 3 := by omega
    refine lcW_map (ts := (List.range ((n : Int) - ((i : Int) + 1)).toNat).map fun (j : Nat) => (i : Int) + 1 + j) .int (fun j => tupI [(i : Int), j]) (by unfold rangeD; rw [List.map_map]; rfl) rfl (fun j hj N hN => ?_) ?_
    · simp -implicitDefEqProofs [wipeD]
      exact hN
    · simp -implicitDefEqProofs [unwipe, keepV, wipeD, -List.map_map]
      refine ⟨by omega, ?_⟩
      have e1 : (L.map tupI) ++ ((List.range ((n : Int) - ((i : Int) + 1)).toNat).map fun (j : Nat) => (i : Int) + 1 + j).map (fun j => tupI [(i : Int), j]) = (L ++ (List.range ((n : Int) - ((i : Int) + 1)).toNat).map fun (j : Nat) => [(i : Int), (i : Int) + 1 + j]).map tupI := by
        rw [List.map_append, List.map_map, List.map_map]; rfl
      rw [e1]
      refine hN _ ⟨_, _, _, rfl, by rw [List.length_append, List.length_map, List.length_range]; omega, fun so hs => ?_⟩
      rcases List.mem_append.mp hs with hs | hs
      · exact hS so hs
      · obtain ⟨j, hj, rfl⟩ := List.mem_map.mp hs
        have := List.mem_range.mp hj
        refine ⟨by simp, fun o ho => ?_⟩
        simp only [List.mem_cons, List.not_mem_nil, or_false] at ho
        rcases ho with rfl | rfl <;> omega
  · rintro ρ ⟨L, x3, x4, rfl, hL, hS⟩
    rw [List.length_map, rngI_len] at hL
    simp -implicitDefEqProofs [wipeD, -List.map_map]
    refine ⟨by omega, by omega, by split <;> omega, ?_⟩
    have e1 : (L.map tupI) ++ List.replicate (if (n : Int) = 3 then (1 : Int) else 0).toNat (.tuple (rangeD 0 n)) = (L ++ List.replicate (if (n : Int) = 3 then (1 : Int) else 0).toNat (rngI n)).map tupI := by
      rw [List.map_append, List.map_replicate, range_rng]; rfl
    rw [e1]
    refine h _ ?_ fun so hs => ?_
    · rw [List.length_append, List.length_replicate]
      split <;> omega
    · rcases List.mem_append.mp hs with hs | hs
      · exact hS so hs
      · rw [(List.mem_replicate.mp hs).2]
        exact Sall
end K84
namespace K84
open PySem PySem.Spec PyProof.Rows L2 Dk
def spSameE : Nat → DSp
  | 0 => fun _ _ _ => False
  | f + 1 => fun as pn P => ∃ (a : Dk.Arg) (x : D), as = [a, .val x] ∧ (a = .val x ∨ ∃ xs, a = .bor xs ∧ x = .list xs) ∧ noDi x = true ∧ x.depth ≤ f ∧ P (.bool true) pn
theorem zip_self {α : Type} {p : α × α} {xs : List α} (h : p ∈ xs.zip xs) : p.1 = p.2 := by
  obtain ⟨i, hi⟩ := List.mem_iff_getElem?.mp h
  obtain ⟨e1, e2⟩ := List.getElem?_zip_eq_some.mp hi
  rw [e1] at e2
  exact Option.some.inj e2
theorem p_same (f : Nat) (as : List Dk.Arg) (pn : Option Pen) (Q : D → Option Pen → Prop) (h : spSameE (f + 1) as pn Q) : t_q18 (spSameE f) { nx := fun ρ => Q .none ρ.pn, rt := Q } ⟨startD 4 as, pn⟩ := by
  obtain ⟨a, b, rfl, ha, hb, hd, h⟩ := h
  have eb : ∀ x y : Bool, eqOk (.bool x) (.bool y) = true := fun x y => by cases x <;> cases y <;> decide
  have ebv : ∀ x y : Bool, PyData.eqv (.bool x) (.bool y) = (x == y) := fun x y => by cases x <;> cases y <;> decide
  have es : ∀ x y : Str, eqOk (.str x) (.str y) = true := fun x y => rfl
  have esv : ∀ x : Str, PyData.eqv (.str x) (.str x) = true := fun x => by simp [PyData.eqv]
  have fin : ∀ ys : List D, (((ys.zip ys).map fun _ => true).all id) = true := fun ys => by simp
  unfold t_q18
  cases b with
  | dict _ => cases hb
  | none =>
    rcases ha with rfl | ⟨xs, _, e⟩
    · simp -implicitDefEqProofs [isNone]; exact h
    · cases e
  | bool y =>
    rcases ha with rfl | ⟨xs, _, e⟩
    · simp -implicitDefEqProofs [isNone, isi, eb, ebv]; exact h
    · cases e
  | int y =>
    rcases ha with rfl | ⟨xs, _, e⟩
    · simp -implicitDefEqProofs [isNone, isi, eb, ebv]; exact h
    · cases e
  | str y =>
    rcases ha with rfl | ⟨xs, _, e⟩
    · simp -implicitDefEqProofs [isNone, isi, eb, ebv, es, esv]; exact h
    · cases e
  | tuple ys =>
    rcases ha with rfl | ⟨xs, _, e⟩
    · simp -implicitDefEqProofs [isNone, isi, eb, ebv, wipeD]
      intro _
      rw [noDi_tuple] at hb
      have hb := noDiA_iff.mp hb
      rw [depth_tuple] at hd
      refine lcW_mapB (fun p : D × D => PyData.tuple [p.1, p.2]) (fun _ => true) (pairL_zip ys ys) (items2 rfl rfl (zipF_ok rfl rfl (by simp))) (fun p hp N hN => ?_) ?_
      · obtain ⟨q1, q2⟩ := List.of_mem_zip hp
        have hx := depth_mem q2
        have e2 : p.1 = p.2 := zip_self hp
        simp -implicitDefEqProofs [wipeD]
        cases f with
        | zero => omega
        | succ f =>
          refine ⟨.val p.1, p.2, rfl, .inl (by rw [e2]), hb _ q2, by omega, ?_⟩
          simp -implicitDefEqProofs [wipeD]
          exact hN
      · simp -implicitDefEqProofs [unwipe, keepV, wipeD, -List.map_map]
        refine gets_notin ?_
        rw [fin]
        exact h
    · cases e
  | list ys =>
    rcases ha with rfl | ⟨xs, rfl, e⟩
    all_goals
      first
      | (have e2 : xs = ys := by injection e with e; exact e.symm
         subst e2)
      | skip
      simp -implicitDefEqProofs [isNone, isi, eb, ebv, wipeD]
      intro _
      rw [noDi_list] at hb
      have hb := noDiA_iff.mp hb
      rw [depth_list] at hd
      refine lcW_mapB (fun p : D × D => PyData.tuple [p.1, p.2]) (fun _ => true) (pairL_zip _ _) (items2 rfl rfl (zipF_ok rfl rfl (by simp))) (fun p hp N hN => ?_) ?_
      · obtain ⟨q1, q2⟩ := List.of_mem_zip hp
        have hx := depth_mem q2
        have e2 : p.1 = p.2 := zip_self hp
        simp -implicitDefEqProofs [wipeD]
        cases f with
        | zero => omega
        | succ f =>
          refine ⟨.val p.1, p.2, rfl, .inl (by rw [e2]), hb _ q2, by omega, ?_⟩
          simp -implicitDefEqProofs [wipeD]
          exact hN
      · simp -implicitDefEqProofs [unwipe, keepV, wipeD, -List.map_map]
        refine gets_notin ?_
        rw [fin]
        exact h
end K84
namespace K84
open PySem PySem.Spec PyProof.Rows L2 Dk
theorem Bm.str20 {w : Str} (h : isWd w) : Bm 20 0 (.str w) := Bm.str (by rcases h with rfl | rfl <;> decide +kernel)
theorem bm_col {c : Col} (h : c.1.natAbs < 1000 ∧ c.2.natAbs < 1000) : Bm 33 1 (colD c) := Bm.tup (c := 13) (h := 0) (L := 2) (fun d hd => by
  simp only [List.mem_cons, List.not_mem_nil, or_false] at hd
  rcases hd with rfl | rfl <;> exact Bm.int (by omega)) (by simp) (by decide)
theorem col_sm {sc occ : List Int} {c : Col} (S : SchOk sc) (h3 : occ.length ≤ 3) (hoc : ∀ o ∈ occ, 0 ≤ o ∧ o < sc.length) (h : ColOk sc occ c) : c.1.natAbs < 1000 ∧ c.2.natAbs < 1000 := by
  obtain ⟨a, b, d, e⟩ := h
  have hm := hoc _ (gI_mem0 a b)
  have hc := S.c _ (gI_mem0 hm.1 hm.2)
  omega
structure Qs (q : Qy) : Prop where
  o1 : 1 ≤ q.occ.length
  o : Bm 100 1 (.tuple (q.occ.map .int))
  ol : q.occ.length ≤ 3
  oi : ∀ o ∈ q.occ, o.natAbs < 1000
  b : ∀ b ∈ q.bnd, Bm 120 2 (bndD b)
  bl : q.bnd.length ≤ 4
  e : ∀ e ∈ q.eqs, Bm 120 2 (eqlD e)
  es : ∀ e ∈ q.eqs, Bm 33 1 (colD e.1) ∧ Bm 33 1 (colD e.2)
  el : q.eqs.length ≤ 3
  u : ∀ c ∈ q.out, Bm 33 1 (colD c)
  ul : q.out.length ≤ 4
  g : Bm 100 1 (grpD q.grp)
theorem qy_qs {sc : List Int} {q : Qy} (S : SchOk sc) (h : QyOk sc 3 q) : Qs q := by
  have l4 := S.l4
  have cb : ∀ c, ColOk sc q.occ c → Bm 33 1 (colD c) := fun c hc => bm_col (col_sm S h.o3 h.oc hc)
  refine ⟨h.o1, (Bm.ints (L := 3) (fun i hi => by have := h.oc i hi; omega) h.o3 (by decide)).mono (by decide) (by decide), h.o3, fun o ho => by have := h.oc o ho; omega, fun b hb => ?_, h.b4, fun e he => ?_, fun e he => ⟨cb _ (h.e e he).1, cb _ (h.e e he).2.1⟩, h.e3, fun c hc => cb c (h.u c hc), h.u4, ?_⟩
  · obtain ⟨h1, h2, h3, h4⟩ := h.b b hb
    exact (Bm.tup (c := 33) (h := 1) (L := 3) (fun d hd => by
      simp only [List.mem_cons, List.not_mem_nil, or_false] at hd
      rcases hd with rfl | rfl | rfl
      · exact cb _ h1
      · exact (Bm.str20 h2).mono (by decide) (by decide)
      · exact (Bm.int (by omega)).mono (by decide) (by decide)) (by simp) (by decide)).mono (by decide) (by decide)
  · obtain ⟨h1, h2, _⟩ := h.e e he
    exact (Bm.tup (c := 33) (h := 1) (L := 2) (fun d hd => by
      simp only [List.mem_cons, List.not_mem_nil, or_false] at hd
      rcases hd with rfl | rfl
      · exact cb _ h1
      · exact cb _ h2) (by simp) (by decide)).mono (by decide) (by decide)
  · cases hg : q.grp with
    | none => exact ⟨rfl, by show wgt PyData.none ≤ 100; decide +kernel, Nat.zero_le _⟩
    | some c => exact (cb c (h.g c hg).1).mono (by decide) (by decide)
theorem bm_list {α : Type} {g : α → D} {as : List α} {c h L : Nat} (ha : ∀ a ∈ as, Bm c h (g a)) (hl : as.length ≤ L) (hL : L ≤ 3000) : Bm (L * (c + 2) + 3) (h + 1) (.tuple (as.map g)) := Bm.tup (fun d hd => by
  obtain ⟨a, hm, rfl⟩ := List.mem_map.mp hd
  exact ha a hm) (by rw [List.length_map]; exact hl) hL
theorem five_bm {a b c d e : D} (ha : Bm 1500 4 a) (hb : Bm 1500 4 b) (hc : Bm 1500 4 c) (hd : Bm 1500 4 d) (he : Bm 1500 4 e) : Bm 20000 5 (.tuple [a, b, c, d, e]) := (Bm.tup (c := 1500) (h := 4) (L := 5) (fun x hx => by
  simp only [List.mem_cons, List.not_mem_nil, or_false] at hx
  rcases hx with rfl | rfl | rfl | rfl | rfl <;> assumption) (by simp) (by decide)).mono (by decide) (by decide)
theorem Qs.ob {q : Qy} (Z : Qs q) : Bm 1500 4 (.tuple (q.occ.map .int)) := Z.o.mono (by decide) (by decide)
theorem Qs.bb {q : Qy} (Z : Qs q) : Bm 1500 4 (.tuple (q.bnd.map bndD)) := (bm_list Z.b Z.bl (by decide)).mono (by decide) (by decide)
theorem Qs.eb {q : Qy} (Z : Qs q) : Bm 1500 4 (.tuple (q.eqs.map eqlD)) := (bm_list Z.e Z.el (by decide)).mono (by decide) (by decide)
theorem Qs.ub {q : Qy} (Z : Qs q) : Bm 1500 4 (.tuple (q.out.map colD)) := (bm_list Z.u Z.ul (by decide)).mono (by decide) (by decide)
theorem Qs.gb {q : Qy} (Z : Qs q) : Bm 1500 4 (grpD q.grp) := Z.g.mono (by decide) (by decide)
theorem Qs.bm {q : Qy} (Z : Qs q) : Bm 20000 5 (qyD q) := five_bm Z.ob Z.bb Z.eb Z.ub Z.gb
theorem row_bm {c : Int} {r : List Int} (h : RowOk c r) (hc : c ≤ 3) : Bm 48 1 (tupI r) := (Bm.ints (L := 3) (fun i hi => by have := h.2 i hi; omega) (by have := h.1; omega) (by decide)).mono (by decide) (by decide)
theorem db_bm {sc : List Int} {most : Nat} {db : Dbs} (S : SchOk sc) (m : most ≤ 10) (h : DbOk sc most db) : Bm 20000 5 (dbsD db) := (bm_list (c := 503) (h := 2) (L := 4) (g := tblD) (fun t ht => by
  obtain ⟨i, hi⟩ := List.mem_iff_getElem?.mp ht
  obtain ⟨h1, h2⟩ := h.rows i t hi
  have hil := (List.getElem?_eq_some_iff.mp hi).1
  have hc : gI sc i ≤ 3 := (S.c _ (by
    have hl := h.len
    rw [show gI sc i = sc[i]'(by omega) from gI_of (List.getElem?_eq_getElem (by omega))]
    exact List.getElem_mem _)).2
  exact (bm_list (c := 48) (h := 1) (L := 10) (g := tupI) (fun r hr => row_bm (h2 r hr) hc) (by omega) (by decide)).mono (by decide) (by decide)) (by have := h.len; have := S.l4; omega) (by decide)).mono (by decide) (by decide)
theorem rep2 {sc : List Int} {most : Nat} {q : Qy} {db : Dbs} (Z : QdOk sc most q db) : reprOkZ (.tuple [qyD q, dbsD db]) := by
  have h1 := (qy_qs Z.s Z.q).bm
  have h2 := db_bm Z.s Z.m Z.d
  exact (Bm.tup (c := 20000) (h := 5) (L := 2) (fun d hd => by
    simp only [List.mem_cons, List.not_mem_nil, or_false] at hd
    rcases hd with rfl | rfl <;> assumption) (by simp) (by decide)).vz.repr (by decide) (by decide)
theorem noDi_tupI {ns : List Int} : noDi (tupI ns) = true := by
  unfold tupI
  rw [noDi_tuple, noDiA_iff]
  intro d hd
  obtain ⟨i, _, rfl⟩ := List.mem_map.mp hd
  rfl
def FlatT (d : D) : Prop := noDi d = true ∧ d.depth ≤ 1
theorem flat_list {ds : List D} (h : ∀ d ∈ ds, FlatT d) : noDi (.list ds) = true ∧ (PyData.list ds).depth ≤ 2 := by
  constructor
  · rw [noDi_list, noDiA_iff]
    exact fun d hd => (h d hd).1
  · rw [depth_list]
    have : PyData.depthAll ds ≤ 1 := depthAll_le.mpr fun d hd => (h d hd).2
    omega
theorem flat_tups {L : List (List Int)} : ∀ d ∈ L.map tupI, FlatT d := fun d hd => by
  obtain ⟨r, _, rfl⟩ := List.mem_map.mp hd
  exact ⟨noDi_tupI, depth_tupI⟩
theorem ans_flat {q : Qy} {db : Dbs} : ∀ d ∈ answerA q db, FlatT d := fun d hd => by
  unfold answerA at hd
  split at hd
  · have hm := ((List.mergeSort_perm (outA q db) leD0).mem_iff : d ∈ sortD (outA q db) ↔ _).mp hd
    obtain ⟨r, _, rfl⟩ := List.mem_map.mp hm
    exact ⟨noDi_tupI, depth_tupI⟩
  · obtain ⟨v, _, rfl⟩ := List.mem_map.mp hd
    exact ⟨rfl, by rw [depth_tuple]; simp [PyData.depthAll, PyData.depth]⟩
theorem ans_len {q : Qy} {db : Dbs} {sc : List Int} {most : Nat} (Z : QdOk sc most q db) : (answerA q db).length ≤ 1000 := by
  have hc := cho_bd Z (occs_so Z.q).1
  have hr : (rowsA q db).length ≤ 1000 := by unfold rowsA; rw [List.length_map]; exact hc
  unfold answerA
  split
  · have e : (sortD (outA q db)).length = (outA q db).length := (List.mergeSort_perm (outA q db) leD0).length_eq
    rw [e]
    unfold outA
    rw [List.length_map]
    exact hr
  · rename_i c _
    rw [List.length_map]
    have := sortU_len (grpA q db c)
    unfold grpA at this ⊢
    rw [List.length_map] at this
    omega
end K84
namespace K84
open PySem PySem.Spec PyProof.Rows L2 Dk
theorem w_4 {sc : List Int} {most : Nat} {q : Qy} {db : Dbs} (Z : QdOk sc most q db) {E : DE} {x2 x3 x6 x7 x8 x9 x10 x11 x12 : Sl} {p : Pen}
    (h : ∀ x6 x7 x8 x9 x10 x11 x12, E.nx ⟨[.un, .pen, x2, x3, .val (qyD q), .val (dbsD db), x6, x7, x8, x9, x10, x11, x12], some p⟩) :
    u4_3 spDrawSch spDrawQy spDrawDbQ spSets spCho spChoO (spSameE 3) spRowsAt spJoined spJoin1 spAns spAnsO E ⟨[.un, .pen, x2, x3, .val (qyD q), .val (dbsD db), x6, x7, x8, x9, x10, x11, x12], some p⟩ := by
  have hz : sizeLine = 16777216 := sizeLine_eq
  have hr := rep2 Z
  unfold u4_3
  simp -implicitDefEqProofs [wipeD]
  refine ⟨hr, ?_⟩
  unfold u4_4
  simp -implicitDefEqProofs [wipeD]
  refine ⟨q, sc, rfl, Z.q, fun L hL hS => ?_⟩
  simp -implicitDefEqProofs [wipeD]
  refine ⟨rfl, fun _ => ?_⟩
  refine forW_inv (fun i ρ => ∃ x7 x8 x9 x10 x11 x12, ρ = ⟨[.un, .pen, x2, x3, .val (qyD q), .val (dbsD db), _, x7, x8, x9, x10, x11, x12], some p⟩) ?_ ?_ ⟨_, _, _, _, _, _, rfl⟩
  · rintro i d ρ hi ⟨x7, x8, x9, x10, x11, x12, rfl⟩ N hN
    rw [List.getElem?_map] at hi
    obtain ⟨so, hso, rfl⟩ := Option.map_eq_some_iff.mp hi
    have S := hS so (List.mem_of_getElem? hso)
    have hcl := cho_bd Z S.1
    obtain ⟨f1, f2⟩ := flat_list (flat_tups (L := choL q db so))
    simp -implicitDefEqProofs [wipeD]
    refine ⟨sc, most, q, db, so, rfl, Z, S, ?_⟩
    unfold u2_1
    simp -implicitDefEqProofs [wipeD]
    intro _
    refine forW_inv (fun i ρ => ∃ x9 x11, ρ = ⟨[.un, .pen, x2, x3, .val (qyD q), .val (dbsD db), _, .val (tupI so), .val (.list ((choL q db so).map tupI)), x9, x10, x11, x12], some p⟩) ?_ ?_ ⟨_, _, rfl⟩
    · rintro j d ρ hj ⟨x9, x11, rfl⟩ N2 hN2
      obtain ⟨hjl, rfl⟩ := rangeD_get hj
      simp -implicitDefEqProofs [wipeD]
      refine ⟨sc, most, q, db, so, rfl, Z, S, ?_⟩
      unfold u1_1 u1_2
      simp -implicitDefEqProofs [wipeD]
      refine ⟨_, _, rfl, .inr ⟨_, rfl, rfl⟩, f1, f2, ?_⟩
      simp -implicitDefEqProofs [wipeD]
      exact ⟨by omega, hN2 _ ⟨_, _, rfl⟩⟩
    · rintro ρ ⟨x9, x11, rfl⟩
      unfold u2_2
      have ec : Dk.cutD ((choL q db so).map tupI) none (some 6) = ((choL q db so).take 6).map tupI := by rw [List.map_take]; exact cut0 _ 6
      simp -implicitDefEqProofs [wipeD, ec, -List.map_take]
      refine ⟨rfl, fun _ => ?_⟩
      refine forW_inv (fun i ρ => ∃ x10 x12, ρ = ⟨[.un, .pen, x2, x3, .val (qyD q), .val (dbsD db), _, .val (tupI so), .val (.list ((choL q db so).map tupI)), x9, x10, x11, x12], some p⟩) ?_ ?_ ⟨_, _, rfl⟩
      · rintro j d ρ hj ⟨x10, x12, rfl⟩ N2 hN2
        rw [List.getElem?_map] at hj
        obtain ⟨pl, hpl, rfl⟩ := Option.map_eq_some_iff.mp hj
        have P : PlcOk q db so pl := choL_ok (List.mem_of_mem_take (List.mem_of_getElem? hpl))
        have r3 := row_le3 Z S P
        have rl := rowsQ_len (q := q) (db := db) P.len
        have s3 := S.1
        simp -implicitDefEqProofs [wipeD]
        refine ⟨sc, most, q, db, so, pl, rfl, Z, S, P, ?_⟩
        simp -implicitDefEqProofs [wipeD]
        refine ⟨sc, most, q, db, so, pl, rfl, Z, S, P, ?_⟩
        simp -implicitDefEqProofs [wipeD]
        refine ⟨_, rfl, by omega, r3, ?_⟩
        simp -implicitDefEqProofs [wipeD]
        refine ⟨_, _, rfl, .inl rfl, noDi_tupI, Nat.le_trans depth_tupI (by decide), ?_⟩
        simp -implicitDefEqProofs [wipeD]
        exact hN2 _ ⟨_, _, rfl⟩
      · rintro ρ ⟨x10, x12, rfl⟩
        exact hN _ ⟨_, _, _, _, _, _, rfl⟩
  · rintro ρ ⟨x7, x8, x9, x10, x11, x12, rfl⟩
    obtain ⟨f1, f2⟩ := flat_list (ans_flat (q := q) (db := db))
    have al := ans_len Z
    unfold u4_5
    simp -implicitDefEqProofs [wipeD]
    refine ⟨sc, most, q, db, rfl, Z, ?_⟩
    unfold u4_6
    simp -implicitDefEqProofs [wipeD]
    intro _
    refine forW_inv (fun i ρ => ∃ x9 x11, ρ = ⟨[.un, .pen, x2, x3, .val (qyD q), .val (dbsD db), _, x7, .val (.list (answerA q db)), x9, x10, x11, x12], some p⟩) ?_ ?_ ⟨_, _, rfl⟩
    · rintro j d ρ hj ⟨x9, x11, rfl⟩ N2 hN2
      obtain ⟨hjl, rfl⟩ := rangeD_get hj
      simp -implicitDefEqProofs [wipeD]
      refine ⟨sc, most, q, db, rfl, Z, ?_⟩
      unfold u3_1 u3_2
      simp -implicitDefEqProofs [wipeD]
      refine ⟨_, _, rfl, .inr ⟨_, rfl, rfl⟩, f1, f2, ?_⟩
      simp -implicitDefEqProofs [wipeD]
      exact ⟨by omega, hN2 _ ⟨_, _, rfl⟩⟩
    · rintro ρ ⟨x9, x11, rfl⟩
      unfold u4_7
      simp -implicitDefEqProofs [wipeD]
      refine ⟨hr, rfl, ?_⟩
      rw [if_pos (by rw [eqv_txt]; simp)]
      exact h _ _ _ _ _ _ _
theorem p_law (cells : List Int) : t_law spDrawSch spDrawQy spDrawDbQ spSets spCho spChoO (spSameE 3) spRowsAt spJoined spJoin1 spAns spAnsO { nx := fun _ => False, rt := fun d _ => d = .bool true } ⟨law0 13, some ⟨cells, 0, 0⟩⟩ := by
  unfold t_law
  have hz : sizeLine = 16777216 := sizeLine_eq
  simp -implicitDefEqProofs [law0]
  intro _
  refine forW_inv (fun t ρ => ∃ (x2 x3 x4 x5 x6 x7 x8 x9 x10 x11 x12 : Sl) (q : Pen), ρ = ⟨[.un, .pen, x2, x3, x4, x5, x6, x7, x8, x9, x10, x11, x12], some q⟩ ∧ t ≤ 6 ∧ Bud q (400 * (6 - t))) ?_ ?_ ⟨_, _, _, _, _, _, _, _, _, _, _, _, rfl, by decide, ⟨Int.le_refl 0, show (0 : Int) + ((400 * (6 - 0) : Nat) : Int) ≤ 2147483648 by decide⟩⟩
  · rintro t d ρ ht ⟨x2, x3, x4, x5, x6, x7, x8, x9, x10, x11, x12, pn, rfl, _, hpn⟩ N hN
    obtain ⟨htlt, rfl⟩ := rangeD_get ht
    simp -implicitDefEqProofs
    refine ⟨pn, 400 * (6 - (t + 1)) + 390, rfl, rfl, bud_le hpn (by omega), fun sc p1 S hp1 => ?_⟩
    unfold u4_1
    simp -implicitDefEqProofs
    refine ⟨p1, sc, 3, 400 * (6 - (t + 1)) + 300, rfl, S, by decide, by decide, rfl, bud_le hp1 (by omega), fun q p2 hq hp2 => ?_⟩
    unfold u4_2
    have o1 := hq.o1
    have o3 := hq.o3
    have key : ∀ (E : DE) (hE : E.nx = N) (most : Nat), 1 ≤ most → most ≤ 10 → spDrawDbQ [.pen, .val (tupI sc), .val (.int most)] (some p2) (fun d pn' => u4_3 spDrawSch spDrawQy spDrawDbQ spSets spCho spChoO (spSameE 3) spRowsAt spJoined spJoin1 spAns spAnsO E ⟨[.un, .pen, .val (.int t), .val (tupI sc), .val (qyD q), .val d, x6, x7, x8, x9, x10, x11, x12], pn'⟩) := fun E hE most m1 m10 => ⟨p2, sc, most, 400 * (6 - (t + 1)), rfl, S, m1, m10, rfl, bud_le hp2 (by omega), fun db p3 hd hp3 => w_4 ⟨S, hq, hd, m10⟩ fun x6 x7 x8 x9 x10 x11 x12 => by rw [hE]; exact hN _ ⟨_, _, _, _, _, _, _, _, _, _, _, p3, rfl, by omega, hp3⟩⟩
    have n3 : q.occ.length = 1 ∨ q.occ.length = 2 ∨ q.occ.length = 3 := by omega
    have eo : (tupI q.occ) = .tuple (q.occ.map .int) := rfl
    have ql : ∀ K : D → Prop, (∀ most : Nat, 1 ≤ most → most ≤ 10 → K (.int most)) → gets (atI [PyData.int 10, .int 6, .int 4] ((q.occ.length : Int) - 1)) K := fun K hK => by
      rw [show ((q.occ.length : Int) - 1) = ((q.occ.length - 1 : Nat) : Int) by omega, Dk.atI_nat]
      rcases n3 with e | e | e
      · rw [e]; exact hK 10 (by decide) (by decide)
      · rw [e]; exact hK 6 (by decide) (by decide)
      · rw [e]; exact hK 4 (by decide) (by decide)
    unfold qyD at key ⊢
    simp -implicitDefEqProofs only [eo] at key ⊢
    simp -implicitDefEqProofs
    refine ql _ fun most m1 m10 => ?_
    exact key _ rfl most m1 m10
  · rintro ρ ⟨x2, x3, x4, x5, x6, x7, x8, x9, x10, x11, x12, q, rfl, _, hq⟩
    simp -implicitDefEqProofs
end K84
set_option maxHeartbeats 0
namespace K84
open PySem PySem.Spec PyProof.Rows L2 Dk
theorem allF {P : Program} {w : World} {K : Fg} {mg : Str → Option Value} {base : Heap} {f_q16 : Addr} {fd_q16 : FuncData} {f_q8 : Addr} {fd_q8 : FuncData} {f_q20 : Addr} {fd_q20 : FuncData} {f_q21 : Addr} {fd_q21 : FuncData} {f_q10 : Addr} {fd_q10 : FuncData} {f_q23 : Addr} {fd_q23 : FuncData} {f_q3 : Addr} {fd_q3 : FuncData} {f_q22 : Addr} {fd_q22 : FuncData} {f_q19 : Addr} {fd_q19 : FuncData} {f_q12 : Addr} {fd_q12 : FuncData} {f_q17 : Addr} {fd_q17 : FuncData} {f_q18 : Addr} {fd_q18 : FuncData} {f_q11 : Addr} {fd_q11 : FuncData} {f_q1 : Addr} {fd_q1 : FuncData} {f_q0 : Addr} {fd_q0 : FuncData} {f_q2 : Addr} {fd_q2 : FuncData} {f_q4 : Addr} {fd_q4 : FuncData} {f_q15 : Addr} {fd_q15 : FuncData} {f_q5 : Addr} {fd_q5 : FuncData} {f_q14 : Addr} {fd_q14 : FuncData} {f_q6 : Addr} {fd_q6 : FuncData} {f_q7 : Addr} {fd_q7 : FuncData} {f_q13 : Addr} {fd_q13 : FuncData} {f_q9 : Addr} {fd_q9 : FuncData} {f_law : Addr} {fd_law : FuncData}
    (B : Blt mg)  (D_q16 : Dfn K mg "value_in" S_q16 f_q16 fd_q16) (D_q8 : Dfn K mg "bound_holds" S_q8 f_q8 fd_q8) (D_q20 : Dfn K mg "all_hold" S_q20 f_q20 fd_q20) (D_q21 : Dfn K mg "rows_at" S_q21 f_q21 fd_q21) (D_q10 : Dfn K mg "choices_of" S_q10 f_q10 fd_q10) (D_q23 : Dfn K mg "joined" S_q23 f_q23 fd_q23) (D_q3 : Dfn K mg "all_occurrences" S_q3 f_q3 fd_q3) (D_q22 : Dfn K mg "answer" S_q22 f_q22 fd_q22) (D_q19 : Dfn K mg "_law_open" S_q19 f_q19 fd_q19) (D_q12 : Dfn K mg "_law_spread" S_q12 f_q12 fd_q12) (D_q17 : Dfn K mg "_law_take" S_q17 f_q17 fd_q17) (D_q18 : Dfn K mg "_law_same" S_q18 f_q18 fd_q18) (D_q11 : Dfn K mg "_law_one_of" S_q11 f_q11 fd_q11) (D_q1 : Dfn K mg "_law_draw_scheme" S_q1 f_q1 fd_q1) (D_q0 : Dfn K mg "_law_draw_database" S_q0 f_q0 fd_q0) (D_q2 : Dfn K mg "_law_draw_column" S_q2 f_q2 fd_q2) (D_q4 : Dfn K mg "_law_draw_query" S_q4 f_q4 fd_q4) (D_q15 : Dfn K mg "_law_sets" S_q15 f_q15 fd_q15) (D_q5 : Dfn K mg "_law_value_of" S_q5 f_q5 fd_q5) (D_q14 : Dfn K mg "_law_holds" S_q14 f_q14 fd_q14) (D_q6 : Dfn K mg "_law_rows_at" S_q6 f_q6 fd_q6) (D_q7 : Dfn K mg "_law_choices" S_q7 f_q7 fd_q7) (D_q13 : Dfn K mg "_law_joined" S_q13 f_q13 fd_q13) (D_q9 : Dfn K mg "_law_answer" S_q9 f_q9 fd_q9) (D_law : Dfn K mg "law" S_law f_law fd_law)  : FnG P w K mg base CX0 5 f_law fd_law P_law (spLaw K) := by
  have F_q16 : FnD P w K mg base 1 f_q16 fd_q16 P_q16 (spValIn) := ok_q16 (k := 0) B D_q16     fun as pn Q _ h => p_value_in as pn Q h
  have F_q8 : FnD P w K mg base 1 f_q8 fd_q8 P_q8 (spBndH) := ok_q8 (k := 0) B D_q8     fun as pn Q _ h => p_bound_holds as pn Q h
  have F_q20 : FnD P w K mg base 2 f_q20 fd_q20 P_q20 (spHold) := ok_q20 (k := 1) B D_q20   D_q8 D_q16 (FnG.mono (F_q8) (by omega)) (FnG.mono (F_q16) (by omega)) fun as pn Q _ h => p_all_hold as pn Q h
  have F_q21 : FnD P w K mg base 1 f_q21 fd_q21 P_q21 (spRowsAt) := ok_q21 (k := 0) B D_q21     fun as pn Q _ h => p_rows_at as pn Q h
  have F_q10 : FnO P w K mg base 3 f_q10 fd_q10 P_q10 (spChoO) := ok_q10 (k := 2) B D_q10   D_q20 D_q21 (FnG.mono (F_q20) (by omega)) (FnG.mono (F_q21) (by omega)) fun as pn Q _ h => p_choices_of as pn Q h
  have F_q23 : FnD P w K mg base 2 f_q23 fd_q23 P_q23 (spJoined) := ok_q23 (k := 1) B D_q23   D_q21 (FnG.mono (F_q21) (by omega)) fun as pn Q _ h => p_joined as pn Q h
  have F_q3 : FnD P w K mg base 1 f_q3 fd_q3 P_q3 (spOccs) := ok_q3 (k := 0) B D_q3     fun as pn Q _ h => p_all_occurrences as pn Q h
  have F_q22 : FnO P w K mg base 4 f_q22 fd_q22 P_q22 (spAnsO) := ok_q22 (k := 3) B D_q22   D_q3 D_q10 D_q21 D_q16 (FnG.mono (F_q3) (by omega)) (FnG.mono (F_q10) (by omega)) (FnG.mono (F_q21) (by omega)) (FnG.mono (F_q16) (by omega)) fun as pn Q _ h => p_answer as pn Q h
  have F_q19 : FnD P w K mg base 1 f_q19 fd_q19 P_q19 (spOpen) := ok_q19 (k := 0) B D_q19     fun as pn Q _ h => p_open as pn Q h
  have F_q12 : FnD P w K mg base 1 f_q12 fd_q12 P_q12 (spSpread) := ok_q12 (k := 0) B D_q12     fun as pn Q _ h => p_spread as pn Q h
  have F_q17 : FnD P w K mg base 2 f_q17 fd_q17 P_q17 (spTake) := ok_q17 (k := 1) B D_q17   D_q12 (FnG.mono (F_q12) (by omega)) fun as pn Q _ h => p_take as pn Q h
  have F_q18 : ∀ f : Nat, FnD P w K mg base (0 + f) f_q18 fd_q18 P_q18 (spSameE f) := fun f => by
    induction f with
    | zero => exact FnD.none (by intro as pn P h; first | exact h | (simp at h) | (obtain ⟨_, _, _, _, h⟩ := h; simp at h))
    | succ f ih => exact ok_q18 (k := 0 + f) B D_q18    ih fun as pn Q _ h => p_same f as pn Q h
  have F_q11 : FnD P w K mg base 3 f_q11 fd_q11 P_q11 (spOneOf) := ok_q11 (k := 2) B D_q11   D_q17 (FnG.mono (F_q17) (by omega)) fun as pn Q _ h => p_one_of as pn Q h
  have F_q1 : FnD P w K mg base 3 f_q1 fd_q1 P_q1 (spDrawSch) := ok_q1 (k := 2) B D_q1   D_q17 (FnG.mono (F_q17) (by omega)) fun as pn Q _ h => p_draw_scheme as pn Q h
  have F_q0 : FnD P w K mg base 4 f_q0 fd_q0 P_q0 (spDrawDbQ) := ok_q0 (k := 3) B D_q0   D_q11 D_q17 (FnG.mono (F_q11) (by omega)) (FnG.mono (F_q17) (by omega)) fun as pn Q _ h => p_draw_database as pn Q h
  have F_q2 : FnD P w K mg base 3 f_q2 fd_q2 P_q2 (spDrawCol) := ok_q2 (k := 2) B D_q2   D_q17 (FnG.mono (F_q17) (by omega)) fun as pn Q _ h => p_draw_column as pn Q h
  have F_q4 : FnD P w K mg base 4 f_q4 fd_q4 P_q4 (spDrawQy) := ok_q4 (k := 3) B D_q4   D_q17 D_q11 D_q2 (FnG.mono (F_q17) (by omega)) (FnG.mono (F_q11) (by omega)) (FnG.mono (F_q2) (by omega)) fun as pn Q _ h => p_draw_query as pn Q h
  have F_q15 : FnD P w K mg base 1 f_q15 fd_q15 P_q15 (spSets) := ok_q15 (k := 0) B D_q15     fun as pn Q _ h => p_law_sets as pn Q h
  have F_q5 : FnD P w K mg base 1 f_q5 fd_q5 P_q5 (spValIn) := ok_q5 (k := 0) B D_q5     fun as pn Q _ h => p_law_value_of as pn Q h
  have F_q14 : FnD P w K mg base 2 f_q14 fd_q14 P_q14 (spHold) := ok_q14 (k := 1) B D_q14   D_q5 (FnG.mono (F_q5) (by omega)) fun as pn Q _ h => p_law_holds as pn Q h
  have F_q6 : FnD P w K mg base 1 f_q6 fd_q6 P_q6 (spRowsAt) := ok_q6 (k := 0) B D_q6     fun as pn Q _ h => p_law_rows_at as pn Q h
  have F_q7 : FnD P w K mg base 3 f_q7 fd_q7 P_q7 (spCho) := ok_q7 (k := 2) B D_q7   D_q14 D_q6 (FnG.mono (F_q14) (by omega)) (FnG.mono (F_q6) (by omega)) fun as pn Q _ h => p_law_choices as pn Q h
  have F_q13 : FnD P w K mg base 1 f_q13 fd_q13 P_q13 (spJoin1) := ok_q13 (k := 0) B D_q13     fun as pn Q _ h => p_law_joined as pn Q h
  have F_q9 : FnD P w K mg base 4 f_q9 fd_q9 P_q9 (spAns) := ok_q9 (k := 3) B D_q9   D_q7 D_q6 D_q5 (FnG.mono (F_q7) (by omega)) (FnG.mono (F_q6) (by omega)) (FnG.mono (F_q5) (by omega)) fun as pn Q _ h => p_law_answer as pn Q h
  exact ok_law (k := 4) B D_law   D_q19 D_q1 D_q4 D_q0 D_q15 D_q7 D_q10 D_q18 D_q6 D_q23 D_q13 D_q9 D_q22 (FnG.mono (F_q19) (by omega)) (FnG.mono (F_q1) (by omega)) (FnG.mono (F_q4) (by omega)) (FnG.mono (F_q0) (by omega)) (FnG.mono (F_q15) (by omega)) (FnG.mono (F_q7) (by omega)) (FnG.mono (F_q10) (by omega)) (FnG.mono (F_q18 3) (by omega)) (FnG.mono (F_q6) (by omega)) (FnG.mono (F_q23) (by omega)) (FnG.mono (F_q13) (by omega)) (FnG.mono (F_q9) (by omega)) (FnG.mono (F_q22) (by omega)) (fun ns Q h => ⟨ns, rfl, rfl, h⟩) p_law
theorem says_fact {K : PySem.W.Frag} (c : He.SaysD fa fn K) {f : He.Fa} (h : f ∈ fa) : f.ok K = true := by
  have c1 := (He.ba (show ((fa.all fun f => f.ok K) && fn.all fun d => d.ok K) = true from congrArg (fun z : He.AlD => z.1) c)).1
  exact List.all_eq_true.mp c1 f h
theorem says_glo {K : PySem.W.Frag} {h : Heap} {mg : Str → Option Value} (X : K.In h) (G : h.Ns mainGlobals mg) (c : He.SaysD fa fn K) (x : Str) (hx : x ∈ gl) : mg x = some (.ref (He.ga K x)) :=
  He.glo_ok X G (says_fact c (List.mem_append_left _ (List.mem_map.mpr ⟨x, hx, rfl⟩)))
theorem facts {P : Program} {w : World} {K : PySem.W.Frag} {h : Heap} {mg : Str → Option Value} {f : Addr} (X : K.In h) (G : h.Ns mainGlobals mg) (hfa : mg ("law" : Str) = some (.ref f)) (c : He.SaysD fa fn K) :
    ∃ fd : FuncData, (∀ (s : Shared) (v : Value), BindsTo s fd ⟨[v], []⟩ [("_law_script", v)]) ∧ ∀ base : Heap, K.In base → base.Ns mainGlobals mg → FnG P w K mg base CX0 5 f fd ["_law_script"] (spLaw K) := by
  have B : Blt mg := fun x hx => He.free_ok X G (says_fact c (List.mem_append_right _ (List.mem_append_left _ (List.mem_map.mpr ⟨x, hx, rfl⟩))))
  obtain ⟨fd_q16, H_value_in⟩ := c.def_ 0 (d := dd_q16) rfl
  have D_q16 : Dfn K mg "value_in" S_q16 (He.ga K "value_in") fd_q16 := ⟨H_value_in, says_glo X G c "value_in" (by unfold gl; simp)⟩
  obtain ⟨fd_q8, H_bound_holds⟩ := c.def_ 1 (d := dd_q8) rfl
  have D_q8 : Dfn K mg "bound_holds" S_q8 (He.ga K "bound_holds") fd_q8 := ⟨H_bound_holds, says_glo X G c "bound_holds" (by unfold gl; simp)⟩
  obtain ⟨fd_q20, H_all_hold⟩ := c.def_ 2 (d := dd_q20) rfl
  have D_q20 : Dfn K mg "all_hold" S_q20 (He.ga K "all_hold") fd_q20 := ⟨H_all_hold, says_glo X G c "all_hold" (by unfold gl; simp)⟩
  obtain ⟨fd_q21, H_rows_at⟩ := c.def_ 3 (d := dd_q21) rfl
  have D_q21 : Dfn K mg "rows_at" S_q21 (He.ga K "rows_at") fd_q21 := ⟨H_rows_at, says_glo X G c "rows_at" (by unfold gl; simp)⟩
  obtain ⟨fd_q10, H_choices_of⟩ := c.def_ 4 (d := dd_q10) rfl
  have D_q10 : Dfn K mg "choices_of" S_q10 (He.ga K "choices_of") fd_q10 := ⟨H_choices_of, says_glo X G c "choices_of" (by unfold gl; simp)⟩
  obtain ⟨fd_q23, H_joined⟩ := c.def_ 5 (d := dd_q23) rfl
  have D_q23 : Dfn K mg "joined" S_q23 (He.ga K "joined") fd_q23 := ⟨H_joined, says_glo X G c "joined" (by unfold gl; simp)⟩
  obtain ⟨fd_q3, H_all_occurrences⟩ := c.def_ 6 (d := dd_q3) rfl
  have D_q3 : Dfn K mg "all_occurrences" S_q3 (He.ga K "all_occurrences") fd_q3 := ⟨H_all_occurrences, says_glo X G c "all_occurrences" (by unfold gl; simp)⟩
  obtain ⟨fd_q22, H_answer⟩ := c.def_ 7 (d := dd_q22) rfl
  have D_q22 : Dfn K mg "answer" S_q22 (He.ga K "answer") fd_q22 := ⟨H_answer, says_glo X G c "answer" (by unfold gl; simp)⟩
  obtain ⟨fd_q19, H_law_open⟩ := c.def_ 8 (d := dd_q19) rfl
  have D_q19 : Dfn K mg "_law_open" S_q19 (He.ga K "_law_open") fd_q19 := ⟨H_law_open, says_glo X G c "_law_open" (by unfold gl; simp)⟩
  obtain ⟨fd_q12, H_law_spread⟩ := c.def_ 9 (d := dd_q12) rfl
  have D_q12 : Dfn K mg "_law_spread" S_q12 (He.ga K "_law_spread") fd_q12 := ⟨H_law_spread, says_glo X G c "_law_spread" (by unfold gl; simp)⟩
  obtain ⟨fd_q17, H_law_take⟩ := c.def_ 10 (d := dd_q17) rfl
  have D_q17 : Dfn K mg "_law_take" S_q17 (He.ga K "_law_take") fd_q17 := ⟨H_law_take, says_glo X G c "_law_take" (by unfold gl; simp)⟩
  obtain ⟨fd_q18, H_law_same⟩ := c.def_ 11 (d := dd_q18) rfl
  have D_q18 : Dfn K mg "_law_same" S_q18 (He.ga K "_law_same") fd_q18 := ⟨H_law_same, says_glo X G c "_law_same" (by unfold gl; simp)⟩
  obtain ⟨fd_q11, H_law_one_of⟩ := c.def_ 12 (d := dd_q11) rfl
  have D_q11 : Dfn K mg "_law_one_of" S_q11 (He.ga K "_law_one_of") fd_q11 := ⟨H_law_one_of, says_glo X G c "_law_one_of" (by unfold gl; simp)⟩
  obtain ⟨fd_q1, H_law_draw_scheme⟩ := c.def_ 13 (d := dd_q1) rfl
  have D_q1 : Dfn K mg "_law_draw_scheme" S_q1 (He.ga K "_law_draw_scheme") fd_q1 := ⟨H_law_draw_scheme, says_glo X G c "_law_draw_scheme" (by unfold gl; simp)⟩
  obtain ⟨fd_q0, H_law_draw_database⟩ := c.def_ 14 (d := dd_q0) rfl
  have D_q0 : Dfn K mg "_law_draw_database" S_q0 (He.ga K "_law_draw_database") fd_q0 := ⟨H_law_draw_database, says_glo X G c "_law_draw_database" (by unfold gl; simp)⟩
  obtain ⟨fd_q2, H_law_draw_column⟩ := c.def_ 15 (d := dd_q2) rfl
  have D_q2 : Dfn K mg "_law_draw_column" S_q2 (He.ga K "_law_draw_column") fd_q2 := ⟨H_law_draw_column, says_glo X G c "_law_draw_column" (by unfold gl; simp)⟩
  obtain ⟨fd_q4, H_law_draw_query⟩ := c.def_ 16 (d := dd_q4) rfl
  have D_q4 : Dfn K mg "_law_draw_query" S_q4 (He.ga K "_law_draw_query") fd_q4 := ⟨H_law_draw_query, says_glo X G c "_law_draw_query" (by unfold gl; simp)⟩
  obtain ⟨fd_q15, H_law_sets⟩ := c.def_ 17 (d := dd_q15) rfl
  have D_q15 : Dfn K mg "_law_sets" S_q15 (He.ga K "_law_sets") fd_q15 := ⟨H_law_sets, says_glo X G c "_law_sets" (by unfold gl; simp)⟩
  obtain ⟨fd_q5, H_law_value_of⟩ := c.def_ 18 (d := dd_q5) rfl
  have D_q5 : Dfn K mg "_law_value_of" S_q5 (He.ga K "_law_value_of") fd_q5 := ⟨H_law_value_of, says_glo X G c "_law_value_of" (by unfold gl; simp)⟩
  obtain ⟨fd_q14, H_law_holds⟩ := c.def_ 19 (d := dd_q14) rfl
  have D_q14 : Dfn K mg "_law_holds" S_q14 (He.ga K "_law_holds") fd_q14 := ⟨H_law_holds, says_glo X G c "_law_holds" (by unfold gl; simp)⟩
  obtain ⟨fd_q6, H_law_rows_at⟩ := c.def_ 20 (d := dd_q6) rfl
  have D_q6 : Dfn K mg "_law_rows_at" S_q6 (He.ga K "_law_rows_at") fd_q6 := ⟨H_law_rows_at, says_glo X G c "_law_rows_at" (by unfold gl; simp)⟩
  obtain ⟨fd_q7, H_law_choices⟩ := c.def_ 21 (d := dd_q7) rfl
  have D_q7 : Dfn K mg "_law_choices" S_q7 (He.ga K "_law_choices") fd_q7 := ⟨H_law_choices, says_glo X G c "_law_choices" (by unfold gl; simp)⟩
  obtain ⟨fd_q13, H_law_joined⟩ := c.def_ 22 (d := dd_q13) rfl
  have D_q13 : Dfn K mg "_law_joined" S_q13 (He.ga K "_law_joined") fd_q13 := ⟨H_law_joined, says_glo X G c "_law_joined" (by unfold gl; simp)⟩
  obtain ⟨fd_q9, H_law_answer⟩ := c.def_ 23 (d := dd_q9) rfl
  have D_q9 : Dfn K mg "_law_answer" S_q9 (He.ga K "_law_answer") fd_q9 := ⟨H_law_answer, says_glo X G c "_law_answer" (by unfold gl; simp)⟩
  obtain ⟨fd, F⟩ := c.def_ 24 (d := dd_law) rfl
  have e := hfa.symm.trans (says_glo X G c "law" (by unfold gl; simp))
  cases e
  have b := FunD.bindsA (ps := ["_law_script"]) F fun _ _ _ _ _ _ us hl => match us, hl with | [_], _ => rfl
  have D_law : Dfn K mg "law" S_law (He.ga K "law") fd := ⟨F, says_glo X G c "law" (by unfold gl; simp)⟩
  exact ⟨fd, fun s v => b s [v] rfl, fun base _ _ => allF B  D_q16 D_q8 D_q20 D_q21 D_q10 D_q23 D_q3 D_q22 D_q19 D_q12 D_q17 D_q18 D_q11 D_q1 D_q0 D_q2 D_q4 D_q15 D_q5 D_q14 D_q6 D_q7 D_q13 D_q9 D_law ⟩
end K84
open PySem PySem.W PySem.Calls PyProof.Rows
theorem PySem.Challenge.cw_priceplans_k84_choices_and_answers_holds : PySem.Challenge.rw_priceplans_k84_choices_and_answers.Holds := by
  w_on; o_law
  refine HandSHeadRun.head_any (r := OpenLaw.row PySem.Challenge.rw_priceplans_k84_choices_and_answers) (q := view (OpenLaw.row PySem.Challenge.rw_priceplans_k84_choices_and_answers).prog [26]) (H := K84.hk) (ob := K84.ob) (M := 4000) (loose := (["value_in", "bound_holds", "all_hold", "rows_at", "choices_of", "joined", "all_occurrences", "answer", "_law_open", "_law_spread", "_law_take", "_law_same", "_law_one_of", "_law_draw_scheme", "_law_draw_database", "_law_draw_column", "_law_draw_query", "_law_sets", "_law_value_of", "_law_holds", "_law_choices", "_law_rows_at", "_law_joined", "_law_answer"] : List PySem.Str)) (d := HandSHeadRun.topDef (OpenLaw.row PySem.Challenge.rw_priceplans_k84_choices_and_answers).prog 26) (kwd := []) K84.ob_eq
    (by kernel_rfl) (fun s => by kernel_rfl) K84.run (by kernel_rfl) (by kernel_rfl) (by kernel_rfl) (by rfl) (by first | assumption | decide +kernel) (by decide +kernel) ⟨rfl, rfl, rfl, rfl, rfl, by decide +kernel⟩ ?hw ?hc
  case hw => w_witness2
  case hc =>
    refine Dk.walk_law (l := PySem.Challenge.rw_priceplans_k84_choices_and_answers) (n := 63) (k := 5) (x := "_law_script") rfl (by decide) (by kernel_rfl) ⟨rfl, by decide, by decide⟩ ?F
    intro w mg fa h Y G hmg0
    obtain ⟨K, KX, c⟩ := Y
    have hmg : mg ("law" : PySem.Str) = some (.ref fa) := by
      have e : (HandSHeadRun.topDef (OpenLaw.row PySem.Challenge.rw_priceplans_k84_choices_and_answers).prog 26).name = ("law" : PySem.Str) := by kernel_rfl
      rw [← e]
      exact hmg0
    obtain ⟨fd, hb, hF⟩ := K84.facts (P := (PySem.Challenge.rw_priceplans_k84_choices_and_answers).prog) (w := w) KX G hmg c
    exact ⟨K, fd, KX, hb, hF⟩
