import PyProof.Rows.All
import Wide.All
import OpenK.AllK
import Wide.FinOn
import HandS.ForMost
import HandS.IsInst
import HandS.Walk
import HandS.Style
import HandS.TupAny
import HandS.TupMul
import HandS.Conv
import HandS.Wide
import HandS.Deep
import HandS.SortInts
import PyProof.WalksMore
import PyProof.ReprRoads
import PyProof.CallFns
import KE.LtData
import KE.GoesZip
import KE.GoesMore
import KE.GoesEnum
import KE.GoesEnumKw
import HandS.Defaults
import HandS.Head0
import HandS.Head1
import HandS.Head2
import HandS.HeadEnd
import HandS.HeadHook1
import HandS.HeadHook2
import PyProof.ReprLen
import PyProof.Rows.ReprOcc
import HandS.WideMore
import HandS.TupLe
import KE.SortData
import HandS.More
import KE.DataMinMax
import HandS.TryOnly
import HandS.ExcInit
import HandS.ExcOwn
import HandS.ClsMeth
import HandS.SetKeys
import HandS.HeadHook4
import HandS.Lambda
import KE.SortKeyHeap
import KE.KSortKey
import HandS.DictTup
import HandS.TupSets
import PyProof.DictMoreH
import HandS.EndTab
import HandS.ExcIs
import HandS.ExcField
import HandS.ExcValue
import PySem.Challenge.RW_priceplans_k02_errors_by_hand
import HandS.Codes
set_option Elab.async false
set_option linter.all false
set_option maxRecDepth 100000
set_option maxHeartbeats 2000000
namespace Dk
open PySem PySem.Spec PyProof.Rows L2
def tObj (a : Array Value) : Obj := { cls := .type "tuple", data := .seq a }
def NewT (H : Hp) (Q : VK) (vs : List V) : Prop := ∀ (p : Addr) (o : Obj), H p = none → o.dict = none → Q (.ref p) (upd H p (.frz o (.tup vs)))
section
variable {X : Cx} {pins : List (Addr × Obj)} {σ : L2.St} {H : Hp} {Q : VK} {vs : List V}
theorem laidC {hp : Heap} {gl d os t1} {t2 : Nat} {a : Array Value} (J : L2.Inv X pins σ H ⟨hp, gl, d, t1, os⟩) (rv : Vals vs a.toList) (z : vs.length ≤ sizeLine) (q : NewT H Q vs) :
    L2.EP X pins σ Q (.ref hp.objs.size) ⟨hp.push (tObj a), gl, d, t2, os⟩ := by
  refine ⟨.ref hp.objs.size, _, J.laid (o := .frz (tObj a) (.tup vs)) (t' := t2) (h' := hp.push (tObj a)) (fun b o e => Heap.get?_push_of_some _ e) (Nat.le_refl _) ?_, rfl, q _ _ (J.hok.fresh (Nat.le_refl _)) rfl⟩
  exact ⟨Heap.get?_push_size _ rfl, z, a.toList, rv, _, Heap.get?_push_size _ rfl, rfl, 0, by rw [Array.toArray_toList]; rfl⟩
end
section
variable {X : Cx} {es : List Expr} {t : TA} {pos : Pos}
def tTupC (t : TA) : TE := fun σ H Q => t σ H fun xs H1 => xs.length ≤ sizeLine ∧ NewT H1 Q xs
theorem pe_tupC {x1} (h : PA X es t) : PE X (.Tuple es x1 pos) (tTupC t) := ⟨fun pins s σ H Q I hq =>
  wpAny_Tuple_spliced (thn (h.run pos pins s σ H _ I hq) fun us s1 ⟨xs, H1, J, rv, z, q⟩ => ⟨by have := rv.length; omega, laidC (a := us.toArray) J (by simpa using rv) z q⟩)⟩
def rCatC (K : PySem.W.Frag) : R2 := fun x y H Q => ∃ a b xs ys, x = .ref a ∧ y = .ref b ∧ SqT K H a xs ∧ SqT K H b ys ∧ xs.length + ys.length ≤ sizeLine ∧ (xs = [] → Q (.ref b) H) ∧ (xs ≠ [] → ys = [] → Q (.ref a) H) ∧ NewT H Q (xs ++ ys)
theorem op_catC : OpR X (binaryOp .Add) (rCatC X.K) := by
  intro pins s σ H x y v u Q I rx ry h
  obtain ⟨a, b, xs, ys, ex, ey, qa, qb, z, h1, h2, h3⟩ := h
  by_cases c1 : xs = []
  · exact op_catA pins s σ H x y v u Q I rx ry ⟨a, b, xs, ys, ex, ey, qa, qb, z, h1, h2, fun n _ => absurd c1 n⟩
  by_cases c2 : ys = []
  · exact op_catA pins s σ H x y v u Q I rx ry ⟨a, b, xs, ys, ex, ey, qa, qb, z, h1, h2, fun _ n => absurd c2 n⟩
  subst ex ey
  obtain rfl : v = .ref a := rx
  obtain rfl : u = .ref b := ry
  obtain ⟨is, ra, ta, _⟩ := I.tuple qa
  obtain ⟨js, rb, tb, _⟩ := I.tuple qb
  refine HT.cat_tup ta tb (fun n => c1 (ra.nil_iff.mp n)) (fun n => absurd (rb.nil_iff.mp n) c2) (fun _ => ?_) (by have := ra.length; have := rb.length; omega)
  exact laidC (a := (is ++ js).toArray) I (ra.append rb) (by rw [List.length_append]; exact z) h3
theorem op_repC : OpR X (binaryOp .Mult) (fun x y H Q => ∃ l k xs, x = .ref l ∧ y = .int k ∧ SqT X.K H l xs ∧ xs ≠ [] ∧ 2 ≤ k ∧ k ≤ 1000 ∧ xs.length ≤ 1000 ∧ NewT H Q (List.replicate k.toNat xs).flatten) := by
  intro pins s σ H x y v u Q I rx ry ⟨l, k, xs, ex, ey, qa, ne, k2, kk, zx, q⟩
  subst ex ey
  obtain rfl : v = .ref l := rx
  obtain ⟨t, rfl⟩ := ry
  obtain ⟨is, ra, ⟨⟨c, dd, da, sl⟩, ho, (hc : c = _), n, (hd : da = _)⟩, _⟩ := I.tuple qa
  subst hc hd
  have el : is.length = xs.length := ra.length.symm
  have es : is.toArray.size = xs.length := by simp [el]
  have e0 : is.toArray.isEmpty = false := by
    cases is with
    | nil => exact absurd (List.eq_nil_of_length_eq_zero el.symm) ne
    | cons _ _ => rfl
  have mk : k.toNat * xs.length ≤ 1000000 := Nat.le_trans (Nat.mul_le_mul (show k.toNat ≤ 1000 by omega) zx) (by omega)
  have mz : ((is.toArray.size : Nat) : Int) * k ≤ 1000000 := by
    rw [es, show k = ((k.toNat : Nat) : Int) by omega, ← Int.natCast_mul, Nat.mul_comm]
    exact Int.ofNat_le.mpr mk
  have fl : (List.replicate k.toNat is).flatten.length ≤ sizeLine := by
    rw [PyProof.Rows.lm_len_rep_flat, el, sizeLine_eq]; omega
  have b1 : (is.toArray.isEmpty || k == 1) = false := by simp only [e0, Bool.false_or, beq_eq_false_iff_ne, ne_eq]; omega
  have b2 : (decide (k ≤ 0) || is.toArray.isEmpty) = false := by simp only [e0, Bool.or_false, decide_eq_false_iff_not]; omega
  have b0 : (decide (k < -(2 ^ 63)) || decide (k ≥ 2 ^ 63)) = false := by
    simp only [Bool.or_eq_false_iff, decide_eq_false_iff_not]; omega
  have b4 : Builtin.Tuple.tupleTooMany (((is.toArray.size : Nat) : Int) * k) = false := by
    unfold Builtin.Tuple.tupleTooMany
    simp only [sizeLine_eq, decide_eq_false_iff_not]; omega
  have W := tuple_mulW l is.toArray n dd sl k t b0 b1 b2 (by omega) b4 (by rw [size_rep, List.size_toArray]; exact fl)
  refine wpAny_binaryOp_repeat_ref (T := "tuple") (U := "int") (by decide) ⟨_, ho, rfl⟩ (fun s' => typeIs_int s' k t) noFill_tuple_mul F.fills_int_mul F.slot_int_rmul repeat_tuple F.slot_int_index.lookup ?_
  refine call_meets F.slot_int_rmul (typeIs_int s k t) F.entry_int_rmul (F.args_int_rmul_2 _ _) (int_rmul_tuple k t l is.toArray n dd sl) ⟨ho, rfl, ⟨_, ho, rfl⟩, ?_⟩
  refine call_meets F.slot_tuple_mul ⟨_, ho, rfl⟩ F.entry_tuple_mul (F.args_tuple_mul_2 _ _) W ⟨ho, ?_⟩
  rw [size_rep]
  exact laidC (a := (List.replicate k.toNat is).flatten.toArray) I (by simpa using ra.rep k.toNat) (by rw [← ra.rep k.toNat |>.length] at fl; exact fl) q
end
end Dk
namespace Dk
open PySem PySem.Spec PyProof.Rows L2
abbrev D := PyData
abbrev Fg := PySem.W.Frag
def Le (F G : Hp) : Prop := ∀ a o, F a = some o → G a = some o
theorem Le.refl (F : Hp) : Le F F := fun _ _ h => h
theorem Le.trans {F G H : Hp} (a : Le F G) (b : Le G H) : Le F H := fun x o h => b x o (a x o h)
theorem Le.rd {F G : Hp} (e : Le F G) {a : Addr} {u : HO} (h : Rd F a u) : Rd G a u := by
  rcases h with h | ⟨o, h⟩
  · exact .inl (e _ _ h)
  · exact .inr ⟨o, e _ _ h⟩
theorem Le.l {K : Fg} {F G : Hp} (e : Le F G) {a : Addr} {xs : List V} (h : SqL K F a xs) : SqL K G a xs := by
  rcases h with h | h
  · exact .inl (e.rd h)
  · exact .inr h
theorem Le.t {K : Fg} {F G : Hp} (e : Le F G) {a : Addr} {xs : List V} (h : SqT K F a xs) : SqT K G a xs := by
  rcases h with h | h
  · exact .inl (e.rd h)
  · exact .inr h
def CqT (K : Fg) (F : Hp) (a : Addr) (vs : List V) : Prop := (∃ o, F a = some (.frz o (.tup vs)) ∧ o.dict = none) ∨
  ∃ (o : Obj) (its : Array Value) (n : Nat), K.lookup a = some o ∧ (o.cls = .type "tuple" ∧ o.dict = none) ∧ o.data = .seq its n ∧ its.size ≤ sizeLine ∧ Vals vs its.toList
theorem CqT.sq {K : Fg} {F : Hp} {a : Addr} {vs : List V} (h : CqT K F a vs) : SqT K F a vs := by
  rcases h with ⟨o, h, _⟩ | ⟨o, its, n, h1, h2, h3, h4, h5⟩
  · exact .inl (.inr ⟨o, h⟩)
  · exact .inr ⟨o, its, n, h1, h2.1, h3, h4, h5⟩
theorem Le.ct {K : Fg} {F G : Hp} (e : Le F G) {a : Addr} {vs : List V} (h : CqT K F a vs) : CqT K G a vs := by
  rcases h with ⟨o, h, g⟩ | h
  · exact .inl ⟨o, e _ _ h, g⟩
  · exact .inr h
def Szs (H : Hp) : Prop := ∀ a xs, H a = some (.lst xs) ∨ (∃ o, H a = some (.frz o (.lst xs))) ∨ H a = some (.tup xs) ∨ (∃ o, H a = some (.frz o (.tup xs))) → xs.length ≤ sizeLine
theorem Szs.t {K : Fg} {H : Hp} (z : Szs H) {a : Addr} {xs : List V} (h : SqT K H a xs) : xs.length ≤ sizeLine := by
  rcases h with (h | ⟨o, h⟩) | ⟨o, its, n, _, _, _, h, r⟩
  · exact z a xs (.inr (.inr (.inl h)))
  · exact z a xs (.inr (.inr (.inr ⟨o, h⟩)))
  · have := r.length
    simp at this
    omega
theorem Szs.l {H : Hp} (z : Szs H) {a : Addr} {xs : List V} (h : H a = some (.lst xs)) : xs.length ≤ sizeLine := z a xs (.inl h)
theorem Szs.upL {H : Hp} (z : Szs H) {p : Addr} {vs : List V} (h : vs.length ≤ sizeLine) : Szs (upd H p (.lst vs)) := fun a xs q => by
  by_cases e : a = p
  · subst e
    rw [upd_same] at q
    rcases q with q | ⟨o, q⟩ | q | ⟨o, q⟩ <;> cases q
    exact h
  · rw [upd_ne e] at q
    exact z a xs q
theorem Szs.upC {H : Hp} (z : Szs H) {p : Addr} {o : Obj} {vs : List V} (h : vs.length ≤ sizeLine) : Szs (upd H p (.frz o (.tup vs))) := fun a xs q => by
  by_cases e : a = p
  · subst e
    rw [upd_same] at q
    rcases q with q | ⟨o, q⟩ | q | ⟨o, q⟩ <;> cases q
    exact h
  · rw [upd_ne e] at q
    exact z a xs q
theorem Szs.upD {H : Hp} (z : Szs H) {p : Addr} : Szs (upd H p (.dK [])) := fun a xs q => by
  by_cases e : a = p
  · subst e
    rw [upd_same] at q
    rcases q with q | ⟨o, q⟩ | q | ⟨o, q⟩ <;> cases q
  · rw [upd_ne e] at q
    exact z a xs q
theorem szs_of {P : Program} {w : World} {H : Hp} {h : Heap} (x : HOk P w H h) : Szs H := fun a xs q => by
  rcases q with q | ⟨o, q⟩ | q | ⟨o, q⟩
  · exact (x a _ q).1
  · exact (x a _ q).2.1
  · exact (x a _ q).1
  · exact (x a _ q).2.1
def bigM : Int := 2 ^ 2000
def refK : D := .int bigM
def errK (C : Addr) (f : Str) : D := .tuple [.int bigM, .int (C : Nat), .str f]
def errD (C : Addr) (f : Str) (x : D) : D := .dict [(errK C f, x)]
def exq (a C dx : Addr) : HO := .ext fun h => ∃ vs, h.get? a = some ({ cls := .ref C, dict := some dx, data := .fields vs } : Obj)
mutual
def DR (K : Fg) (F : Hp) : D → V → Prop
  | .none, v => v = .non
  | .bool b, v => v = .bl b
  | .int i, v => v = .int i
  | .str x, v => v = .str x
  | .list ds, v => ∃ a vs, v = .ref a ∧ F a = some (.lst vs) ∧ DRs K F ds vs
  | .tuple ds, v => ∃ a vs, v = .ref a ∧ CqT K F a vs ∧ DRs K F ds vs
  | .dict kvs, v => ∃ a, v = .ref a ∧ DRd K F kvs a
def DRs (K : Fg) (F : Hp) : List D → List V → Prop
  | [], vs => vs = []
  | d :: ds, vs => ∃ v r, vs = v :: r ∧ DR K F d v ∧ DRs K F ds r
def DRd (K : Fg) (F : Hp) : List (D × D) → Addr → Prop
  | [], a => F a = some (.dK [])
  | kv :: r, a => r = [] ∧ DRp K F kv a
def DRp (K : Fg) (F : Hp) : D × D → Addr → Prop
  | (k, x), a => (k = refK ∧ x = .int (a : Nat)) ∨ ∃ C f dx u, k = errK C f ∧ F a = some (exq a C dx) ∧ F dx = some (.xd [(f, u)]) ∧ DR K F x u
end
section
variable {K : Fg} {F G H : Hp}
mutual
theorem DR.mono (e : Le F G) : ∀ (d : D) (v : V), DR K F d v → DR K G d v
  | .none, v, h => by unfold DR at h ⊢; exact h
  | .bool b, v, h => by unfold DR at h ⊢; exact h
  | .int i, v, h => by unfold DR at h ⊢; exact h
  | .str x, v, h => by unfold DR at h ⊢; exact h
  | .list ds, v, h => by
    unfold DR at h ⊢
    obtain ⟨a, vs, h1, h2, h3⟩ := h
    exact ⟨a, vs, h1, e _ _ h2, DRs.mono e ds vs h3⟩
  | .tuple ds, v, h => by
    unfold DR at h ⊢
    obtain ⟨a, vs, h1, h2, h3⟩ := h
    exact ⟨a, vs, h1, e.ct h2, DRs.mono e ds vs h3⟩
  | .dict kvs, v, h => by
    unfold DR at h ⊢
    obtain ⟨a, h1, h2⟩ := h
    exact ⟨a, h1, DRd.mono e kvs a h2⟩
theorem DRs.mono (e : Le F G) : ∀ (ds : List D) (vs : List V), DRs K F ds vs → DRs K G ds vs
  | [], vs, h => by unfold DRs at h ⊢; exact h
  | d :: ds, vs, h => by
    unfold DRs at h ⊢
    obtain ⟨v, r, h1, h2, h3⟩ := h
    exact ⟨v, r, h1, DR.mono e d v h2, DRs.mono e ds r h3⟩
theorem DRd.mono (e : Le F G) : ∀ (kvs : List (D × D)) (a : Addr), DRd K F kvs a → DRd K G kvs a
  | [], a, h => by unfold DRd at h ⊢; exact e _ _ h
  | kv :: r, a, h => by
    unfold DRd at h ⊢
    exact ⟨h.1, DRp.mono e kv a h.2⟩
theorem DRp.mono (e : Le F G) : ∀ (kv : D × D) (a : Addr), DRp K F kv a → DRp K G kv a
  | (k, x), a, h => by
    unfold DRp at h ⊢
    rcases h with h | ⟨C, f, dx, u, h1, h2, h3, h4⟩
    · exact .inl h
    · exact .inr ⟨C, f, dx, u, h1, e _ _ h2, e _ _ h3, DR.mono e x u h4⟩
end
theorem DR.non_ {v : V} : DR K F .none v ↔ v = .non := by unfold DR; exact Iff.rfl
theorem DR.bl_ {b : Bool} {v : V} : DR K F (.bool b) v ↔ v = .bl b := by unfold DR; exact Iff.rfl
theorem DR.int_ {i : Int} {v : V} : DR K F (.int i) v ↔ v = .int i := by unfold DR; exact Iff.rfl
theorem DR.str_ {x : Str} {v : V} : DR K F (.str x) v ↔ v = .str x := by unfold DR; exact Iff.rfl
theorem DR.list_ {ds : List D} {v : V} : DR K F (.list ds) v ↔ ∃ a vs, v = .ref a ∧ F a = some (.lst vs) ∧ DRs K F ds vs := by
  conv => lhs; unfold DR
theorem DR.tupC_ {ds : List D} {v : V} : DR K F (.tuple ds) v ↔ ∃ a vs, v = .ref a ∧ CqT K F a vs ∧ DRs K F ds vs := by
  conv => lhs; unfold DR
theorem DR.tuple_s {ds : List D} {v : V} (h : DR K F (.tuple ds) v) : ∃ a vs, v = .ref a ∧ SqT K F a vs ∧ DRs K F ds vs := by
  obtain ⟨a, vs, e, h1, h2⟩ := DR.tupC_.mp h
  exact ⟨a, vs, e, h1.sq, h2⟩
theorem DR.dictC_ {kvs : List (D × D)} {v : V} : DR K F (.dict kvs) v ↔ ∃ a, v = .ref a ∧ DRd K F kvs a := by
  conv => lhs; unfold DR
theorem DR.dict_ {v : V} : DR K F (.dict []) v ↔ ∃ a, v = .ref a ∧ F a = some (.dK []) := by
  rw [DR.dictC_]
  constructor
  · rintro ⟨a, h1, h2⟩
    unfold DRd at h2
    exact ⟨a, h1, h2⟩
  · rintro ⟨a, h1, h2⟩
    refine ⟨a, h1, ?_⟩
    unfold DRd
    exact h2
theorem bigM_ne {C : Addr} {f : Str} : errK C f ≠ refK := by unfold errK refK; exact nofun
theorem DR.err_ {C : Addr} {f : Str} {x : D} {v : V} : DR K F (errD C f x) v ↔ ∃ a dx u, v = .ref a ∧ F a = some (exq a C dx) ∧ F dx = some (.xd [(f, u)]) ∧ DR K F x u := by
  unfold errD
  rw [DR.dictC_]
  constructor
  · rintro ⟨a, h1, h2⟩
    unfold DRd DRp at h2
    rcases h2.2 with ⟨h, _⟩ | ⟨C', f', dx, u, h, h3, h4, h5⟩
    · exact absurd h bigM_ne
    · unfold errK at h
      injection h with h
      injection h with _ h
      injection h with hc h
      injection h with hf _
      injection hc with hc
      injection hf with hf
      have hc : C = C' := Int.ofNat.inj hc
      subst hc hf
      exact ⟨a, dx, u, h1, h3, h4, h5⟩
  · rintro ⟨a, dx, u, rfl, h3, h4, h5⟩
    refine ⟨a, rfl, ?_⟩
    unfold DRd DRp
    exact ⟨rfl, .inr ⟨C, f, dx, u, rfl, h3, h4, h5⟩⟩
def ptop : D → Bool
  | .dict (_ :: _) => false
  | _ => true
mutual
def rdb : D → Bool
  | .dict (_ :: _) => false
  | .list ds => rdbs ds
  | .tuple ds => rdbs ds
  | _ => true
def rdbs : List D → Bool
  | [] => true
  | d :: ds => rdb d && rdbs ds
end
theorem DRs.nil_ {vs : List V} : DRs K F [] vs ↔ vs = [] := by unfold DRs; exact Iff.rfl
theorem DRs.cons_ {d : D} {ds : List D} {vs : List V} : DRs K F (d :: ds) vs ↔ ∃ v r, vs = v :: r ∧ DR K F d v ∧ DRs K F ds r := by
  conv => lhs; unfold DRs
theorem DRs.nil : DRs K F [] [] := DRs.nil_.mpr rfl
theorem DRs.cons {d : D} {ds : List D} {v : V} {vs : List V} (h : DR K F d v) (r : DRs K F ds vs) : DRs K F (d :: ds) (v :: vs) := DRs.cons_.mpr ⟨v, vs, rfl, h, r⟩
theorem DRs.len : ∀ {ds : List D} {vs : List V}, DRs K F ds vs → vs.length = ds.length
  | [], vs, h => by rw [DRs.nil_.mp h]; rfl
  | d :: ds, vs, h => by
    obtain ⟨v, r, rfl, _, h3⟩ := DRs.cons_.mp h
    rw [List.length_cons, List.length_cons, DRs.len h3]
theorem DRs.get : ∀ {ds : List D} {vs : List V} {i : Nat} {d : D}, DRs K F ds vs → ds[i]? = some d → ∃ v, vs[i]? = some v ∧ DR K F d v
  | [], vs, i, d, h, e => by simp at e
  | c :: ds, vs, 0, d, h, e => by
    obtain ⟨v, r, rfl, h2, _⟩ := DRs.cons_.mp h
    simp at e
    subst e
    exact ⟨v, rfl, h2⟩
  | c :: ds, vs, i + 1, d, h, e => by
    obtain ⟨v, r, rfl, _, h3⟩ := DRs.cons_.mp h
    obtain ⟨u, h1, h2⟩ := DRs.get (i := i) h3 (by simpa using e)
    exact ⟨u, by simpa using h1, h2⟩
theorem DRs.append : ∀ {ds es : List D} {vs us : List V}, DRs K F ds vs → DRs K F es us → DRs K F (ds ++ es) (vs ++ us)
  | [], es, vs, us, h, g => by rw [DRs.nil_.mp h]; exact g
  | d :: ds, es, vs, us, h, g => by
    obtain ⟨v, r, rfl, h2, h3⟩ := DRs.cons_.mp h
    exact .cons h2 (h3.append g)
theorem DRs.take : ∀ {ds : List D} {vs : List V} (n : Nat), DRs K F ds vs → DRs K F (ds.take n) (vs.take n)
  | ds, vs, 0, h => by simp; exact .nil
  | [], vs, n + 1, h => by rw [DRs.nil_.mp h]; exact .nil
  | d :: ds, vs, n + 1, h => by
    obtain ⟨v, r, rfl, h2, h3⟩ := DRs.cons_.mp h
    exact .cons h2 (h3.take n)
theorem DRs.drop : ∀ {ds : List D} {vs : List V} (n : Nat), DRs K F ds vs → DRs K F (ds.drop n) (vs.drop n)
  | ds, vs, 0, h => h
  | [], vs, n + 1, h => by rw [DRs.nil_.mp h]; exact .nil
  | d :: ds, vs, n + 1, h => by
    obtain ⟨v, r, rfl, h2, h3⟩ := DRs.cons_.mp h
    exact h3.drop n
theorem DRs.set : ∀ {ds : List D} {vs : List V} (n : Nat) {d : D} {v : V}, DRs K F ds vs → DR K F d v → DRs K F (ds.set n d) (vs.set n v)
  | [], vs, n, d, v, h, g => by rw [DRs.nil_.mp h]; exact .nil
  | c :: ds, vs, 0, d, v, h, g => by
    obtain ⟨u, r, rfl, h2, h3⟩ := DRs.cons_.mp h
    exact .cons g h3
  | c :: ds, vs, n + 1, d, v, h, g => by
    obtain ⟨u, r, rfl, h2, h3⟩ := DRs.cons_.mp h
    exact .cons h2 (h3.set n g)
theorem DRs.reverse : ∀ {ds : List D} {vs : List V}, DRs K F ds vs → DRs K F ds.reverse vs.reverse
  | [], vs, h => by rw [DRs.nil_.mp h]; exact .nil
  | d :: ds, vs, h => by
    obtain ⟨v, r, rfl, h2, h3⟩ := DRs.cons_.mp h
    rw [List.reverse_cons, List.reverse_cons]
    exact h3.reverse.append (.cons h2 .nil)
theorem DRs.rep {ds : List D} {vs : List V} (h : DRs K F ds vs) : ∀ n : Nat, DRs K F (List.replicate n ds).flatten (List.replicate n vs).flatten
  | 0 => .nil
  | n + 1 => by
    rw [List.replicate_succ, List.replicate_succ, List.flatten_cons, List.flatten_cons]
    exact h.append (h.rep n)
theorem DRs.ints : ∀ {ns : List Int} {vs : List V}, DRs K F (ns.map .int) vs → vs = ns.map V.int
  | [], vs, h => DRs.nil_.mp h
  | n :: ns, vs, h => by
    obtain ⟨u, r, rfl, h2, h3⟩ := DRs.cons_.mp h
    rw [DR.int_.mp h2, DRs.ints h3]
    rfl
theorem DRs.of_ints : ∀ (ns : List Int), DRs K F (ns.map .int) (ns.map V.int)
  | [] => .nil
  | n :: ns => .cons (DR.int_.mpr rfl) (DRs.of_ints ns)
end
structure Pen where
  cells : List Int
  at_ : Int
  cur : Int
inductive Sl where
  | un | val (d : D) | own (xs : List D) | bor (xs : List D) | pen | scr (ns : List Int) | ref (a : Addr)
structure Bs where
  H0 : Hp
  F0 : Hp
  M : Addr → Prop
structure Tag where
  H0 : Hp
  F0 : Hp
  M : Addr → Prop
  pa : Option Addr
class StK (S : Type) where
  look : S → Addr → Option (List D)
  tag : S → Option Tag
  R : Fg → Option Addr → Hp → Hp → S → (Addr → Prop) → Prop
  frame : ∀ {K : Fg} {pa : Option Addr} {H F H' F' : Hp} {s : S} {T : Addr → Prop}, R K pa H F s T → (∀ b, T b → H' b = H b) → Le F F' → (∀ b, T b → F' b = none) → R K pa H' F' s T
  seen : ∀ {K : Fg} {pa : Option Addr} {H F : Hp} {s : S} {T : Addr → Prop} {b : Addr} {xs : List D}, R K pa H F s T → look s b = some xs → ∃ vs, H b = some (.lst vs) ∧ DRs K F xs vs
def ScrR (K : Fg) (H : Hp) (T : Addr → Prop) (a : Addr) (ns : List Int) : Prop := (Rd H a (.lst (ns.map .int)) ∧ ¬ T a) ∨ SqL K (fun _ => none) a (ns.map .int)
def SlotR (K : Fg) (B : Bs) (pa : Option Addr) (H F : Hp) : Sl → Option V → Prop
  | .un, _ => True
  | .val d, o => ∃ v, o = some v ∧ DR K F d v
  | .own xs, o => ∃ a vs, o = some (.ref a) ∧ H a = some (.lst vs) ∧ DRs K F xs vs ∧ F a = none ∧ B.H0 a = none
  | .bor xs, o => ∃ a vs, o = some (.ref a) ∧ B.H0 a = some (.lst vs) ∧ DRs K F xs vs ∧ ¬ B.M a
  | .pen, o => ∃ a, pa = some a ∧ o = some (.ref a)
  | .scr ns, o => ∃ a, o = some (.ref a) ∧ ScrR K B.H0 B.M a ns
  | .ref a, o => o = some (.ref a)
structure StR {S : Type} [StK S] (K : Fg) (B : Bs) (pa : Option Addr) (zs : List (Option V)) (H F : Hp) (ws : List Sl) (pn : S) (T : Addr → Prop) : Prop where
  r : StK.R K pa H F pn T
  hn : ∀ b, T b → H b ≠ none
  fn : ∀ b, T b → F b = none
  bs : ∀ b, T b → B.H0 b = none ∨ B.M b
  ap : ∀ (i : Nat) (xs : List D) (a : Addr), ws[i]? = some (.own xs) → zs[i]? = some (some (.ref a)) → ¬ T a
def TagOk (r : Tag) (B : Bs) (pa : Option Addr) (F : Hp) : Prop := r.pa = pa ∧ r.H0 = B.H0 ∧ r.M = B.M ∧ Le r.F0 F ∧ ∀ b o, F b = some o → r.F0 b = some o ∨ B.H0 b = none ∨ B.M b
theorem TagOk.grow {r : Tag} {B : Bs} {pa : Option Addr} {F F' : Hp} (h : TagOk r B pa F) (hF : Le F F') (hfr : ∀ b o, F' b = some o → F b = some o ∨ B.H0 b = none ∨ B.M b) : TagOk r B pa F' :=
  ⟨h.1, h.2.1, h.2.2.1, h.2.2.2.1.trans hF, fun b o e => (hfr b o e).elim (h.2.2.2.2 b o) .inr⟩
class NoTag (S : Type) [StK S] : Prop where
  no : ∀ s : S, StK.tag s = none
structure Rel {S : Type} [StK S] (K : Fg) (B : Bs) (pa : Option Addr) (zs : List (Option V)) (H F : Hp) (ws : List Sl) (pn : S) : Prop where
  len : zs.length = ws.length
  fh : Le F H
  base : ∀ b o, B.H0 b = some o → ¬ B.M b → H b = some o
  f0 : Le B.F0 F
  fr : ∀ b o, F b = some o → B.F0 b = some o ∨ B.H0 b = none ∨ B.M b
  sl : ∀ (i : Nat) (s : Sl), ws[i]? = some s → ∃ o, zs[i]? = some o ∧ SlotR K B pa H F s o
  inj : ∀ (i j : Nat) (xs ys : List D) (a : Addr), ws[i]? = some (.own xs) → ws[j]? = some (.own ys) → zs[i]? = some (some (.ref a)) → zs[j]? = some (some (.ref a)) → i = j
  st : ∃ T, StR K B pa zs H F ws pn T
  pal : ∀ b, B.M b → H b ≠ none
  sz : Szs H
  tg : ∀ r, StK.tag pn = some r → TagOk r B pa F
section
variable {S : Type} [StK S] {K : Fg} {B : Bs} {pa : Option Addr} {zs : List (Option V)} {H F H' F' : Hp} {ws : List Sl} {pn pn' : S} {v : V} {d : D} {s : Sl} {o : Option V} {xs ys : List D} {p : Addr} {i : Nat} {T T' : Addr → Prop}
theorem ScrR.sq {a : Addr} {ns : List Int} {M : Addr → Prop} (h : ScrR K H M a ns) : SqL K H a (ns.map .int) := by
  rcases h with ⟨h, _⟩ | h
  · exact .inl h
  · rcases h with (h | ⟨o, h⟩) | h
    · exact nomatch h
    · exact nomatch h
    · exact .inr h
theorem get_app {α : Type} {l : List α} {x : α} {i : Nat} {y : α} (h : (l ++ [x])[i]? = some y) : l[i]? = some y ∨ (i = l.length ∧ x = y) := by
  by_cases hi : i < l.length
  · rw [List.getElem?_append_left hi] at h
    exact .inl h
  · rw [List.getElem?_append_right (by omega)] at h
    by_cases e : i = l.length
    · subst e
      simp at h
      exact .inr ⟨rfl, h⟩
    · rw [List.getElem?_eq_none (by simp; omega)] at h
      cases h
theorem app_get {α : Type} {l : List α} {x : α} {i : Nat} {y : α} (h : l[i]? = some y) : (l ++ [x])[i]? = some y := by
  rw [List.getElem?_append_left (List.getElem?_eq_some_iff.mp h).1]
  exact h
theorem app_last {α : Type} (l : List α) (x : α) : (l ++ [x])[l.length]? = some x := by simp
theorem SlotR.grow (h : SlotR K B pa H F s o) (hH : ∀ xs a, s = .own xs → o = some (.ref a) → H' a = H a ∧ F' a = none) (hF : Le F F') : SlotR K B pa H' F' s o := by
  cases s with
  | un => trivial
  | val d =>
    obtain ⟨v, e, r⟩ := h
    exact ⟨v, e, r.mono hF⟩
  | own xs =>
    obtain ⟨a, vs, e, h1, h2, h3, h4⟩ := h
    obtain ⟨g1, g2⟩ := hH xs a rfl e
    exact ⟨a, vs, e, by rw [g1]; exact h1, h2.mono hF, g2, h4⟩
  | bor xs =>
    obtain ⟨a, vs, e, h1, h2, h3⟩ := h
    exact ⟨a, vs, e, h1, h2.mono hF, h3⟩
  | pen => exact h
  | scr ns => exact h
  | ref a => exact h
theorem new_none {b : Addr} {T : Addr → Prop} (hfr : ∀ b u, F' b = some u → F b = some u ∨ H b = none ∨ T b) (h1 : F b = none) (h2 : H b ≠ none) (h3 : ¬ T b) : F' b = none := by
  cases q : F' b with
  | none => rfl
  | some u =>
    rcases hfr b u q with z | z | z
    · rw [h1] at z; cases z
    · exact absurd z h2
    · exact absurd z h3
theorem Rel.called (R : Rel K B pa zs H F ws pn) (t : StR K B pa zs H F ws pn T) (hH : ∀ b u, H b = some u → ¬ T b → H' b = some u) (hF : Le F F') (hFH : Le F' H') (hfr : ∀ b u, F' b = some u → F b = some u ∨ H b = none ∨ T b)
    (hr : StK.R K pa H' F' pn' T') (hT : ∀ b, T' b → T b ∨ H b = none) (hn : ∀ b, T' b → H' b ≠ none) (hf : ∀ b, T' b → F' b = none) (hp : ∀ b, H b ≠ none → H' b ≠ none) (hz : Szs H') (ht : StK.tag pn' = StK.tag pn := by rfl) : Rel K B pa zs H' F' ws pn' := by
  have h0 : ∀ b, H b = none → B.H0 b = none := fun b z => by
    cases q : B.H0 b with
    | none => rfl
    | some w =>
      by_cases hb : B.M b
      · exact absurd z (R.pal b hb)
      · have := R.base b w q hb
        rw [z] at this; cases this
  have hown : ∀ (i : Nat) (xs : List D) (a : Addr), ws[i]? = some (.own xs) → zs[i]? = some (some (.ref a)) → H a ≠ none ∧ ¬ T a ∧ H' a = H a ∧ F' a = none := fun i xs a e1 e2 => by
    obtain ⟨o, g1, b, vs, g2, g3, _, g4, _⟩ := R.sl i _ e1
    rw [e2] at g1
    cases g1
    cases g2
    have hne : H a ≠ none := by rw [g3]; exact nofun
    have hT' := t.ap i xs a e1 e2
    exact ⟨hne, hT', by rw [hH a _ g3 hT', g3], new_none hfr g4 hne hT'⟩
  refine ⟨R.len, hFH, fun b u e n => ?_, R.f0.trans hF, fun b u e => ?_, fun i s e => ?_, R.inj, ⟨T', hr, hn, hf, fun b hb => ?_, fun i xs a e1 e2 hb => ?_⟩, fun b hb => hp b (R.pal b hb), hz, fun r er => (R.tg r (by rw [← ht]; exact er)).grow hF fun b u e => ?_⟩
  · refine hH b u (R.base b u e n) fun hb => ?_
    rcases t.bs b hb with z | z
    · rw [e] at z; cases z
    · exact n z
  · rcases hfr b u e with z | z | z
    · exact R.fr b u z
    · exact .inr (.inl (h0 b z))
    · exact .inr (t.bs b z)
  · obtain ⟨o, e1, e2⟩ := R.sl i s e
    refine ⟨o, e1, e2.grow (fun xs a h1 h2 => ?_) hF⟩
    subst h1 h2
    exact (hown i xs a e e1).2.2
  · rcases hT b hb with z | z
    · exact t.bs b z
    · exact .inl (h0 b z)
  · obtain ⟨g1, g2, _⟩ := hown i xs a e1 e2
    rcases hT a hb with z | z
    · exact g2 z
    · exact g1 z
  · rcases hfr b u e with z | z | z
    · exact .inl z
    · exact .inr (.inl (h0 b z))
    · exact .inr (t.bs b z).symm.symm
theorem Rel.grow (R : Rel K B pa zs H F ws pn) (hH : Le H H') (hF : Le F F') (hFH : Le F' H') (hfr : ∀ b u, F' b = some u → F b = some u ∨ H b = none) (hz : Szs H') : Rel K B pa zs H' F' ws pn := by
  obtain ⟨T, t⟩ := R.st
  have hn : ∀ b, H b ≠ none → H' b = H b := fun b h => by
    obtain ⟨u, e⟩ := Option.ne_none_iff_exists'.mp h
    rw [e, hH _ _ e]
  have hf : ∀ b, T b → F' b = none := fun b hb => new_none (T := fun _ => False) (fun b u e => (hfr b u e).imp id .inl) (t.fn b hb) (t.hn b hb) id
  exact R.called t (fun b u e _ => hH b u e) hF hFH (fun b u e => (hfr b u e).imp id .inl) (StK.frame t.r (fun b hb => hn b (t.hn b hb)) hF hf) (fun b hb => .inl hb) (fun b hb => by rw [hn b (t.hn b hb)]; exact t.hn b hb) hf (fun b h => by rw [hn b h]; exact h) hz rfl
theorem Rel.hnone (R : Rel K B pa zs H F ws pn) (hp : H p = none) : F p = none ∧ B.H0 p = none ∧ ¬ B.M p := by
  have hm : ¬ B.M p := fun e => R.pal p e hp
  refine ⟨?_, ?_, hm⟩
  · cases q : F p with
    | none => rfl
    | some u => rw [R.fh _ _ q] at hp; cases hp
  · cases q : B.H0 p with
    | none => rfl
    | some w => rw [R.base p w q hm] at hp; cases hp
theorem le_upd {o : HO} (hp : H p = none) : Le H (upd H p o) := fun b u e => by rw [upd_ne (ne_of_none e hp)]; exact e
theorem own_push {a : Addr} {xs : List D} (hl : zs.length = ws.length) (ho : ∀ xs, s ≠ .own xs) (sl : ∀ (i : Nat) (s : Sl), ws[i]? = some s → ∃ o, zs[i]? = some o ∧ SlotR K B pa H F s o) (e1 : (ws ++ [s])[i]? = some (.own xs)) (e2 : (zs ++ [o])[i]? = some (some (.ref a))) :
    ws[i]? = some (.own xs) ∧ zs[i]? = some (some (.ref a)) := by
  rcases get_app e1 with e | ⟨_, e⟩
  · obtain ⟨o1, q1, _⟩ := sl i _ e
    rw [app_get q1] at e2
    exact ⟨e, by rw [q1, e2]⟩
  · exact absurd e (ho _)
theorem Rel.push (R : Rel K B pa zs H F ws pn) (h : SlotR K B pa H F s o) (ho : ∀ xs, s ≠ .own xs) : Rel K B pa (zs ++ [o]) H F (ws ++ [s]) pn := by
  obtain ⟨T, t⟩ := R.st
  refine ⟨by simp [R.len], R.fh, R.base, R.f0, R.fr, fun i t e => ?_, fun i j xs ys a e1 e2 e3 e4 => ?_, ⟨T, t.r, t.hn, t.fn, t.bs, fun i xs a e1 e2 => ?_⟩, R.pal, R.sz, R.tg⟩
  · rcases get_app e with e | ⟨rfl, rfl⟩
    · obtain ⟨o', h1, h2⟩ := R.sl i t e
      exact ⟨o', app_get h1, h2⟩
    · exact ⟨o, by rw [← R.len]; exact app_last _ _, h⟩
  · obtain ⟨a1, a2⟩ := own_push R.len ho R.sl e1 e3
    obtain ⟨b1, b2⟩ := own_push R.len ho R.sl e2 e4
    exact R.inj i j xs ys a a1 b1 a2 b2
  · obtain ⟨a1, a2⟩ := own_push R.len ho R.sl e1 e2
    exact t.ap i xs a a1 a2
theorem Rel.pushVal (R : Rel K B pa zs H F ws pn) (h : DR K F d v) : Rel K B pa (zs ++ [some v]) H F (ws ++ [.val d]) pn := R.push (s := .val d) ⟨v, rfl, h⟩ fun _ => nofun
theorem Rel.pushUn (R : Rel K B pa zs H F ws pn) (o : Option V) : Rel K B pa (zs ++ [o]) H F (ws ++ [.un]) pn := R.push (s := .un) trivial fun _ => nofun
theorem Rel.pushOwn {vs : List V} (R : Rel K B pa zs H F ws pn) (hp : H p = none) (h : DRs K F xs vs) (hz : vs.length ≤ sizeLine) : Rel K B pa (zs ++ [some (.ref p)]) (upd H p (.lst vs)) F (ws ++ [.own xs]) pn := by
  obtain ⟨n1, n2, n3⟩ := R.hnone hp
  have R1 : Rel K B pa zs (upd H p (.lst vs)) F ws pn := R.grow (le_upd hp) (Le.refl _) (R.fh.trans (le_upd hp)) (fun b u e => .inl e) (R.sz.upL hz)
  have old : ∀ (k : Nat) (zz : List D) (c : Addr), ws[k]? = some (.own zz) → (zs ++ [some (.ref p)])[k]? = some (some (.ref c)) → zs[k]? = some (some (.ref c)) ∧ c ≠ p := fun k zz c e q => by
    obtain ⟨o1, q1, q2⟩ := R.sl k _ e
    rw [app_get q1] at q
    have q := Option.some.inj q
    subst q
    obtain ⟨a', vs', z1, z2, _⟩ := q2
    cases z1
    exact ⟨q1, ne_of_none z2 hp⟩
  have new : ∀ (k : Nat) (c : Addr), k = ws.length → (zs ++ [some (.ref p)])[k]? = some (some (.ref c)) → c = p := fun k c e q => by
    rw [e, ← R.len, app_last] at q
    cases q; rfl
  obtain ⟨T, t⟩ := R.st
  have tne : ∀ b, T b → b ≠ p := fun b hb z => t.hn b hb (by rw [z]; exact hp)
  have tH : ∀ b, T b → upd H p (.lst vs) b = H b := fun b hb => upd_ne (tne b hb)
  refine ⟨by simp [R.len], R1.fh, R1.base, R1.f0, R1.fr, fun i t e => ?_, fun i j xs ys a e1 e2 e3 e4 => ?_, ⟨T, StK.frame t.r tH (Le.refl _) t.fn, fun b hb => by rw [tH b hb]; exact t.hn b hb, t.fn, t.bs, fun i xs a e1 e2 hb => ?_⟩, R1.pal, R1.sz, R1.tg⟩
  · rcases get_app e with e | ⟨rfl, rfl⟩
    · obtain ⟨o', h1, h2⟩ := R1.sl i t e
      exact ⟨o', app_get h1, h2⟩
    · exact ⟨_, by rw [← R.len]; exact app_last _ _, p, vs, rfl, upd_same, h, n1, n2⟩
  · rcases get_app e1 with e1 | ⟨i1, e1⟩
    · obtain ⟨q1, q1'⟩ := old _ _ _ e1 e3
      rcases get_app e2 with e2 | ⟨j1, e2⟩
      · exact R.inj i j xs ys a e1 e2 q1 (old _ _ _ e2 e4).1
      · exact absurd (new j a j1 e4) q1'
    · rcases get_app e2 with e2 | ⟨j1, e2⟩
      · exact absurd (new i a i1 e3) (old _ _ _ e2 e4).2
      · rw [i1, j1]
  · rcases get_app e1 with e1 | ⟨i1, e1⟩
    · exact t.ap i xs a e1 (old _ _ _ e1 e2).1 hb
    · exact tne a hb (new i a i1 e2)
theorem Rel.pushTup {vs : List V} {o : Obj} (R : Rel K B pa zs H F ws pn) (hp : H p = none) (h : DRs K F xs vs) (hz : vs.length ≤ sizeLine) (ho : o.dict = none) : Rel K B pa (zs ++ [some (.ref p)]) (upd H p (.frz o (.tup vs))) (upd F p (.frz o (.tup vs))) (ws ++ [.val (.tuple xs)]) pn := by
  obtain ⟨n1, n2, n3⟩ := R.hnone hp
  have hF : Le F (upd F p (.frz o (.tup vs))) := le_upd n1
  have R1 : Rel K B pa zs (upd H p (.frz o (.tup vs))) (upd F p (.frz o (.tup vs))) ws pn := R.grow (le_upd hp) hF (fun b u e => by
    by_cases hb : b = p
    · subst hb; rw [upd_same] at e ⊢; exact e
    · rw [upd_ne hb] at e ⊢; exact R.fh _ _ e) (fun b u e => by
    by_cases hb : b = p
    · subst hb; exact .inr hp
    · rw [upd_ne hb] at e; exact .inl e) (R.sz.upC hz)
  exact R1.pushVal (DR.tupC_.mpr ⟨p, vs, rfl, .inl ⟨o, upd_same, ho⟩, h.mono hF⟩)
theorem Rel.pushDict (R : Rel K B pa zs H F ws pn) (hp : H p = none) : Rel K B pa (zs ++ [some (.ref p)]) (upd H p (.dK [])) (upd F p (.dK [])) (ws ++ [.val (.dict [])]) pn := by
  obtain ⟨n1, n2, n3⟩ := R.hnone hp
  have hF : Le F (upd F p (.dK [])) := le_upd n1
  have R1 : Rel K B pa zs (upd H p (.dK [])) (upd F p (.dK [])) ws pn := R.grow (le_upd hp) hF (fun b u e => by
    by_cases hb : b = p
    · subst hb; rw [upd_same] at e ⊢; exact e
    · rw [upd_ne hb] at e ⊢; exact R.fh _ _ e) (fun b u e => by
    by_cases hb : b = p
    · subst hb; exact .inr hp
    · rw [upd_ne hb] at e; exact .inl e) R.sz.upD
  exact R1.pushVal (DR.dict_.mpr ⟨p, rfl, upd_same⟩)
theorem Rel.pop (R : Rel K B pa (zs ++ [o]) H F (ws ++ [s]) pn) : Rel K B pa zs H F ws pn := by
  have hl : zs.length = ws.length := by have := R.len; simp at this; omega
  obtain ⟨T, t⟩ := R.st
  refine ⟨hl, R.fh, R.base, R.f0, R.fr, fun i t e => ?_, fun i j xs ys a e1 e2 e3 e4 => R.inj i j xs ys a (app_get e1) (app_get e2) (app_get e3) (app_get e4), ⟨T, t.r, t.hn, t.fn, t.bs, fun i xs a e1 e2 => t.ap i xs a (app_get e1) (app_get e2)⟩, R.pal, R.sz, R.tg⟩
  obtain ⟨o', h1, h2⟩ := R.sl i t (app_get e)
  have hi : i < zs.length := by rw [hl]; exact (List.getElem?_eq_some_iff.mp e).1
  rw [List.getElem?_append_left hi] at h1
  exact ⟨o', h1, h2⟩
theorem Rel.pops : ∀ {os : List (Option V)} {ss : List Sl}, os.length = ss.length → Rel K B pa (zs ++ os) H F (ws ++ ss) pn → Rel K B pa zs H F ws pn := by
  intro os
  induction os generalizing zs ws with
  | nil =>
    intro ss hl R
    cases ss with
    | nil => simpa using R
    | cons _ _ => simp at hl
  | cons x r ih =>
    intro ss hl R
    cases ss with
    | nil => simp at hl
    | cons y t =>
      have R' : Rel K B pa ((zs ++ [x]) ++ r) H F ((ws ++ [y]) ++ t) pn := by simpa using R
      exact (ih (by simpa using hl) R').pop
theorem Rel.move (R : Rel K B pa (zs ++ [o]) H F (ws ++ [s]) pn) (hi : i < zs.length) : Rel K B pa (zs.set i o) H F (ws.set i s) pn := by
  have hl : zs.length = ws.length := by have := R.len; simp at this; omega
  have at_ : ∀ (k : Nat) (t : Sl), (ws.set i s)[k]? = some t → ∃ m, (ws ++ [s])[m]? = some t ∧ (zs.set i o)[k]? = (zs ++ [o])[m]? ∧ ((k = i ∧ m = ws.length) ∨ (k ≠ i ∧ m = k ∧ k < ws.length)) := fun k t e => by
    by_cases hk : k = i
    · subst hk
      rw [List.getElem?_set_self (by omega)] at e
      refine ⟨ws.length, ?_, ?_, .inl ⟨rfl, rfl⟩⟩
      · rw [app_last]; exact e
      · rw [List.getElem?_set_self hi, ← hl, app_last]
    · rw [List.getElem?_set_ne (Ne.symm hk)] at e
      have hk' := (List.getElem?_eq_some_iff.mp e).1
      refine ⟨k, app_get e, ?_, .inr ⟨hk, rfl, hk'⟩⟩
      rw [List.getElem?_set_ne (Ne.symm hk), List.getElem?_append_left (by omega)]
  obtain ⟨T, t⟩ := R.st
  refine ⟨by simp [hl], R.fh, R.base, R.f0, R.fr, fun k t e => ?_, fun k j xs ys a e1 e2 e3 e4 => ?_, ⟨T, t.r, t.hn, t.fn, t.bs, fun k xs a e1 e2 => ?_⟩, R.pal, R.sz, R.tg⟩
  · obtain ⟨m, h1, h2, _⟩ := at_ k t e
    obtain ⟨o', q1, q2⟩ := R.sl m t h1
    exact ⟨o', by rw [h2]; exact q1, q2⟩
  · obtain ⟨m, h1, h2, h3⟩ := at_ k _ e1
    obtain ⟨n, g1, g2, g3⟩ := at_ j _ e2
    have := R.inj m n xs ys a h1 g1 (by rw [← h2]; exact e3) (by rw [← g2]; exact e4)
    omega
  · obtain ⟨m, h1, h2, _⟩ := at_ k _ e1
    exact t.ap m xs a h1 (by rw [← h2]; exact e2)
theorem Rel.freeze (R : Rel K B pa zs H F ws pn) (hi : ws[i]? = some (.own xs)) : ∃ F' v, Le F F' ∧ Rel K B pa zs H F' (ws.set i (.val (.list xs))) pn ∧ zs[i]? = some (some v) ∧ DR K F' (.list xs) v := by
  obtain ⟨o, h1, a, vs, e, h2, h3, h4, h5⟩ := R.sl i _ hi
  subst e
  have hF : Le F (upd F a (.lst vs)) := le_upd h4
  have hd : DR K (upd F a (.lst vs)) (.list xs) (.ref a) := DR.list_.mpr ⟨a, vs, rfl, upd_same, h3.mono hF⟩
  have hiw := (List.getElem?_eq_some_iff.mp hi).1
  obtain ⟨T, t⟩ := R.st
  have hTa := t.ap i xs a hi h1
  have ne : ∀ (k : Nat) (zz : List D), (ws.set i (.val (.list xs)))[k]? = some (.own zz) → ws[k]? = some (.own zz) ∧ k ≠ i := fun k zz e => by
    by_cases hk : k = i
    · subst hk
      rw [List.getElem?_set_self hiw] at e; cases e
    · rw [List.getElem?_set_ne (Ne.symm hk)] at e; exact ⟨e, hk⟩
  have hfn : ∀ b, T b → upd F a (.lst vs) b = none := fun b hb => by rw [upd_ne fun z => hTa (by rw [← z]; exact hb)]; exact t.fn b hb
  refine ⟨_, .ref a, hF, ⟨by simp [R.len], fun b u e => ?_, R.base, R.f0.trans hF, fun b u e => ?_, fun j t e => ?_, fun k j xs' ys a' e1 e2 e3 e4 => ?_, ⟨T, StK.frame t.r (fun b _ => rfl) hF hfn, t.hn, hfn, t.bs, fun k xs' a' e1 e2 => t.ap k xs' a' (ne k _ e1).1 e2⟩, R.pal, R.sz, fun r er => (R.tg r er).grow hF fun b u e => ?_⟩, h1, hd⟩
  · by_cases hb : b = a
    · subst hb; rw [upd_same] at e; rw [h2]; exact e
    · rw [upd_ne hb] at e; exact R.fh _ _ e
  · by_cases hb : b = a
    · subst hb; exact .inr (.inl h5)
    · rw [upd_ne hb] at e; exact R.fr _ _ e
  · by_cases hj : j = i
    · subst hj
      rw [List.getElem?_set_self hiw] at e
      cases e
      exact ⟨_, h1, _, rfl, hd⟩
    · rw [List.getElem?_set_ne (Ne.symm hj)] at e
      obtain ⟨o', q1, q2⟩ := R.sl j t e
      refine ⟨o', q1, q2.grow (fun ys a' z1 z2 => ?_) hF⟩
      subst z1 z2
      obtain ⟨_, _, y1, _, _, y2, _⟩ := q2
      cases y1
      refine ⟨rfl, ?_⟩
      rw [upd_ne fun z => hj (R.inj j i ys xs a' e hi q1 (by rw [z]; exact h1))]
      exact y2
  · exact R.inj k j _ _ a' (ne _ _ e1).1 (ne _ _ e2).1 e3 e4
  · by_cases hb : b = a
    · subst hb; exact .inr (.inl h5)
    · rw [upd_ne hb] at e; exact .inl e
theorem Rel.write {vs : List V} {a : Addr} (R : Rel K B pa zs H F ws pn) (hi : ws[i]? = some (.own xs)) (ha : zs[i]? = some (some (.ref a))) (h : DRs K F ys vs) (hz : vs.length ≤ sizeLine) : Rel K B pa zs (upd H a (.lst vs)) F (ws.set i (.own ys)) pn := by
  obtain ⟨o, h1, a', vs', e, h2, h3, h4, h5⟩ := R.sl i _ hi
  subst e
  rw [ha] at h1
  cases h1
  have hiw := (List.getElem?_eq_some_iff.mp hi).1
  obtain ⟨T, t⟩ := R.st
  have hTa := t.ap i xs a hi ha
  have ne : ∀ (k : Nat) (zz : List D), (ws.set i (.own ys))[k]? = some (.own zz) → ∃ z', ws[k]? = some (.own z') := fun k zz e => by
    by_cases hk : k = i
    · subst hk; exact ⟨_, hi⟩
    · rw [List.getElem?_set_ne (Ne.symm hk)] at e; exact ⟨_, e⟩
  have tH : ∀ b, T b → upd H a (.lst vs) b = H b := fun b hb => upd_ne fun z => hTa (by rw [← z]; exact hb)
  refine ⟨by simp [R.len], fun b u e => ?_, fun b u e n => ?_, R.f0, R.fr, fun j t e => ?_, fun k j xs' ys a' e1 e2 e3 e4 => ?_, ⟨T, StK.frame t.r tH (Le.refl _) t.fn, fun b hb => by rw [tH b hb]; exact t.hn b hb, t.fn, t.bs, fun k xs' a' e1 e2 => ?_⟩, fun b e z => ?_, R.sz.upL hz, R.tg⟩
  · have hb : b ≠ a := fun z => by rw [z, h4] at e; cases e
    rw [upd_ne hb]; exact R.fh _ _ e
  · have hb : b ≠ a := fun z => by rw [z, h5] at e; cases e
    rw [upd_ne hb]; exact R.base _ _ e n
  · by_cases hj : j = i
    · subst hj
      rw [List.getElem?_set_self hiw] at e
      cases e
      exact ⟨_, ha, a, vs, rfl, upd_same, h, h4, h5⟩
    · rw [List.getElem?_set_ne (Ne.symm hj)] at e
      obtain ⟨o', q1, q2⟩ := R.sl j t e
      refine ⟨o', q1, q2.grow (fun zz a' z1 z2 => ?_) (Le.refl _)⟩
      subst z1 z2
      obtain ⟨_, _, y1, _, _, y2, _⟩ := q2
      cases y1
      exact ⟨upd_ne fun z => hj (R.inj j i zz xs a' e hi q1 (by rw [z]; exact ha)), y2⟩
  · obtain ⟨z1, q1⟩ := ne _ _ e1
    obtain ⟨z2, q2⟩ := ne _ _ e2
    exact R.inj k j _ _ a' q1 q2 e3 e4
  · obtain ⟨z1, q1⟩ := ne _ _ e1
    exact t.ap k z1 a' q1 e2
  · by_cases hb : b = a
    · subst hb; rw [upd_same] at z; cases z
    · rw [upd_ne hb] at z; exact R.pal b e z
end
def PenR (K : Fg) (F H : Hp) (pa : Option Addr) : Option Pen → Prop
  | none => True
  | some p => ∃ a c, pa = some a ∧ H a = some (.lst [.ref c, .int p.at_, .int p.cur]) ∧ F a = none ∧ F c = some (.lst (p.cells.map .int))
theorem PenR.frame {K : Fg} {F H F' H' : Hp} {pa : Option Addr} {pn : Option Pen} (h : PenR K F H pa pn) (hH : ∀ b, pa = some b → H' b = H b) (hF : Le F F') (hf : ∀ b, pa = some b → F' b = none) : PenR K F' H' pa pn := by
  cases pn with
  | none => trivial
  | some p =>
    obtain ⟨a, c, h1, h2, h3, h4⟩ := h
    exact ⟨a, c, h1, by rw [hH a h1]; exact h2, hf a h1, hF _ _ h4⟩
instance stPen : StK (Option Pen) where
  look := fun _ _ => none
  tag := fun _ => none
  seen := fun _ e => nomatch e
  R := fun K pa H F pn T => PenR K F H pa pn ∧ T = fun b => pa = some b
  frame := fun h hH hF hf => by
    obtain ⟨h1, rfl⟩ := h
    exact ⟨h1.frame hH hF hf, rfl⟩
instance noPen : NoTag (Option Pen) := ⟨fun _ => rfl⟩
class PenK (S : Type) extends StK S where
  get : S → Option Pen
  set : Option Pen → S → S
  tagS : ∀ (p : Option Pen) (s : S), tag (set p s) = tag s
  pen : ∀ {K : Fg} {pa : Option Addr} {H F : Hp} {s : S} {T : Addr → Prop}, R K pa H F s T → PenR K F H pa (get s) ∧ ∀ b, pa = some b → T b
  apart : ∀ {K : Fg} {pa : Option Addr} {H F : Hp} {s : S} {T : Addr → Prop} {b : Addr} {xs : List D}, R K pa H F s T → look s b = some xs → pa ≠ some b
  up : ∀ {K : Fg} {pa : Option Addr} {H F H' F' : Hp} {s : S} {T : Addr → Prop} {pn : Option Pen}, R K pa H F s T → (∀ b, T b → pa ≠ some b → H' b = H b) → Le F F' → (∀ b, T b → F' b = none) → PenR K F' H' pa pn → R K pa H' F' (set pn s) T
instance penPen : PenK (Option Pen) where
  toStK := stPen
  get := fun p => p
  set := fun p _ => p
  tagS := fun _ _ => rfl
  pen := fun h => by
    obtain ⟨h1, rfl⟩ := h
    exact ⟨h1, fun b e => e⟩
  apart := fun _ e => nomatch e
  up := fun h _ _ _ hp => by
    obtain ⟨_, rfl⟩ := h
    exact ⟨hp, rfl⟩
end Dk
namespace Dk
open PySem PySem.Spec PyProof.Rows L2
variable {S : Type} [StK S]
structure En (S : Type := Option Pen) where
  sl : List Sl
  pn : S
inductive Rs where
  | val (d : D) | own (xs : List D)
def Rs.sl : Rs → Sl
  | .val d => .val d
  | .own xs => .own xs
def Rs.d : Rs → D
  | .val d => d
  | .own xs => .list xs
inductive Tk where
  | tmp (r : Rs) | slot (i : Nat) | bt (xs : List D) | fb (b : Addr)
def Tk.sl : Tk → Sl
  | .tmp r => r.sl
  | .slot _ => .un
  | .bt xs => .bor xs
  | .fb b => .ref b
def Sl.rd : Sl → Option D
  | .val d => some d
  | .own xs => some (.list xs)
  | .bor xs => some (.list xs)
  | _ => none
def Tk.rd (ρ : En S) : Tk → Option D
  | .tmp r => some r.d
  | .slot i => (ρ.sl[i]?).bind Sl.rd
  | .bt xs => some (.list xs)
  | .fb b => (StK.look ρ.pn b).map .list
def gets {α : Type} : Option α → (α → Prop) → Prop
  | some a, k => k a
  | none, _ => False
@[simp] theorem gets_some {α : Type} {a : α} {k : α → Prop} : gets (some a) k = k a := rfl
@[simp] theorem gets_none {α : Type} {k : α → Prop} : gets none k = False := rfl
theorem gets_elim {α : Type} {o : Option α} {k : α → Prop} (h : gets o k) : ∃ a, o = some a ∧ k a := by
  cases o with
  | none => exact h.elim
  | some a => exact ⟨a, rfl, h⟩
def RdD (K : Fg) (H F : Hp) (d : D) (v : V) : Prop := DR K F d v ∨ ∃ ds a vs, d = .list ds ∧ v = .ref a ∧ H a = some (.lst vs) ∧ DRs K F ds vs
def RdDs (K : Fg) (H F : Hp) : List D → List V → Prop
  | [], vs => vs = []
  | d :: ds, vs => ∃ v r, vs = v :: r ∧ RdD K H F d v ∧ RdDs K H F ds r
section
variable {K : Fg} {B : Bs} {pa : Option Addr} {zs : List (Option V)} {H F H' F' : Hp} {ws : List Sl} {pn pn' : S} {v : V} {d : D} {s : Sl} {o : Option V} {xs ys : List D} {p : Addr} {i : Nat}
theorem RdD.list {ds : List D} (h : RdD K H F (.list ds) v) (e : Le F H) : ∃ a vs, v = .ref a ∧ H a = some (.lst vs) ∧ DRs K F ds vs := by
  rcases h with h | ⟨ds', a, vs, h1, h2, h3, h4⟩
  · obtain ⟨a, vs, h1, h2, h3⟩ := DR.list_.mp h
    exact ⟨a, vs, h1, e _ _ h2, h3⟩
  · cases h1
    exact ⟨a, vs, h2, h3, h4⟩
theorem RdD.tuple {ds : List D} (h : RdD K H F (.tuple ds) v) (e : Le F H) : ∃ a vs, v = .ref a ∧ SqT K H a vs ∧ DRs K F ds vs := by
  rcases h with h | ⟨ds', a, vs, h1, _⟩
  · obtain ⟨a, vs, h1, h2, h3⟩ := DR.tuple_s h
    exact ⟨a, vs, h1, e.t h2, h3⟩
  · cases h1
theorem RdD.int {j : Int} (h : RdD K H F (.int j) v) : v = .int j := by
  rcases h with h | ⟨ds', a, vs, h1, _⟩
  · exact DR.int_.mp h
  · cases h1
theorem RdD.bool {j : Bool} (h : RdD K H F (.bool j) v) : v = .bl j := by
  rcases h with h | ⟨ds', a, vs, h1, _⟩
  · exact DR.bl_.mp h
  · cases h1
theorem RdD.str {j : Str} (h : RdD K H F (.str j) v) : v = .str j := by
  rcases h with h | ⟨ds', a, vs, h1, _⟩
  · exact DR.str_.mp h
  · cases h1
theorem RdD.none_ (h : RdD K H F .none v) : v = .non := by
  rcases h with h | ⟨ds', a, vs, h1, _⟩
  · exact DR.non_.mp h
  · cases h1
theorem RdD.dictC {kvs : List (D × D)} (h : RdD K H F (.dict kvs) v) : ∃ a, v = .ref a := by
  rcases h with h | ⟨ds', a, vs, h1, _⟩
  · obtain ⟨a, h1, _⟩ := DR.dictC_.mp h
    exact ⟨a, h1⟩
  · cases h1
theorem RdD.dict (h : RdD K H F (.dict []) v) (e : Le F H) : ∃ a, v = .ref a ∧ H a = some (.dK []) := by
  rcases h with h | ⟨ds', a, vs, h1, _⟩
  · obtain ⟨a, h1, h3⟩ := DR.dict_.mp h
    exact ⟨a, h1, e _ _ h3⟩
  · cases h1
theorem RdDs.one (h : RdDs K H F [d] vs) : ∃ v, vs = [v] ∧ RdD K H F d v := by
  obtain ⟨v, r, h1, h2, h3⟩ := h
  have h3 : r = [] := h3
  subst h3
  exact ⟨v, h1, h2⟩
theorem RdDs.two {e : D} (h : RdDs K H F [d, e] vs) : ∃ v u, vs = [v, u] ∧ RdD K H F d v ∧ RdD K H F e u := by
  obtain ⟨v, r, h1, h2, h3⟩ := h
  obtain ⟨u, rfl, h4⟩ := RdDs.one h3
  exact ⟨v, u, h1, h2, h4⟩
theorem slot_read (R : Rel K B pa zs H F ws pn) {c : Nat} (hw : ws[c]? = some s) (hz : zs[c]? = some (some v)) (h : s.rd = some d) : RdD K H F d v := by
  obtain ⟨o, h1, h2⟩ := R.sl c s hw
  rw [hz] at h1
  cases h1
  cases s with
  | un => cases h
  | pen => cases h
  | scr ns => cases h
  | ref a => cases h
  | val e =>
    cases h
    obtain ⟨u, h3, h4⟩ := h2
    cases h3
    exact .inl h4
  | own e =>
    cases h
    obtain ⟨a, vs, h3, h4, h5, _⟩ := h2
    cases h3
    exact .inr ⟨_, a, vs, rfl, rfl, h4, h5⟩
  | bor e =>
    cases h
    obtain ⟨a, vs, h3, h4, h5, h6⟩ := h2
    cases h3
    exact .inr ⟨_, a, vs, rfl, rfl, R.base _ _ h4 h6, h5⟩
theorem Rs.rd_sl (r : Rs) : r.sl.rd = some r.d := by cases r <;> rfl
theorem tk_read {k : Tk} {ρ : En S} {c : Nat} (R : Rel K B pa zs H F ws ρ.pn) (hw : ws[c]? = some k.sl) (hz : zs[c]? = some (some v)) (hs : ∀ i, k = .slot i → zs[i]? = some (some v)) (hρ : ∀ i, i < ρ.sl.length → ws[i]? = ρ.sl[i]?) (h : k.rd ρ = some d) : RdD K H F d v := by
  cases k with
  | tmp r =>
    have h : some r.d = some d := h
    exact slot_read R hw hz (by show r.sl.rd = _; rw [Rs.rd_sl]; exact h)
  | bt xs => exact slot_read R hw hz h
  | slot i =>
    have h : (ρ.sl[i]?).bind Sl.rd = some d := h
    obtain ⟨s, h1, h2⟩ := Option.bind_eq_some_iff.mp h
    exact slot_read R (by rw [hρ i (List.getElem?_eq_some_iff.mp h1).1]; exact h1) (hs i rfl) h2
  | fb b =>
    have h : (StK.look ρ.pn b).map PyData.list = some d := h
    obtain ⟨xs, h1, rfl⟩ := Option.map_eq_some_iff.mp h
    obtain ⟨o, h2, h3⟩ := R.sl c _ hw
    have h3 : o = some (.ref b) := h3
    subst h3
    rw [hz] at h2
    cases h2
    obtain ⟨T, t⟩ := R.st
    obtain ⟨vs, h4, h5⟩ := StK.seen t.r h1
    exact .inr ⟨xs, b, vs, rfl, rfl, h4, h5⟩
end
def Gives (K : Fg) (F H : Hp) : Rs → VK → Prop
  | .val z, Q => (∀ v, DR K F z v → Q v H) ∧ (∀ zs vs, z = .tuple zs → DRs K F zs vs → vs.length ≤ sizeLine → NewT H Q vs) ∧ (∀ p, z = .dict [] → H p = none → Q (.ref p) (upd H p (.dK [])))
  | .own zs, Q => ∀ vs p, DRs K F zs vs → vs.length ≤ sizeLine → H p = none → Q (.ref p) (upd H p (.lst vs))
theorem Rel.gives {K : Fg} {B : Bs} {pa : Option Addr} {zs : List (Option V)} {H F : Hp} {ws : List Sl} {pn : S} {r : Rs} {Q : VK} (R : Rel K B pa zs H F ws pn)
    (q : ∀ v H' F', Rel K B pa (zs ++ [some v]) H' F' (ws ++ [r.sl]) pn → Q v H') : Gives K F H r Q := by
  cases r with
  | val z => exact ⟨fun v h => q v H F (R.pushVal h), fun ys vs e h hz p o hp ho => q _ _ _ (by rw [e]; exact R.pushTup hp h hz ho), fun p e hp => q _ _ _ (by rw [e]; exact R.pushDict hp)⟩
  | own ys => exact fun vs p h hz hp => q _ _ _ (R.pushOwn hp h hz)
theorem freezeLast {K : Fg} {B : Bs} {pa : Option Addr} {zs : List (Option V)} {H F : Hp} {ws : List Sl} {pn : S} {r : Rs} {v : V} (R : Rel K B pa (zs ++ [some v]) H F (ws ++ [r.sl]) pn) :
    ∃ F', Le F F' ∧ Rel K B pa (zs ++ [some v]) H F' (ws ++ [.val r.d]) pn := by
  cases r with
  | val z => exact ⟨F, Le.refl _, R⟩
  | own ys =>
    obtain ⟨F', u, h1, h2, _⟩ := R.freeze (i := ws.length) (xs := ys) (app_last _ _)
    refine ⟨F', h1, ?_⟩
    have e : (ws ++ [(Rs.own ys).sl]).set ws.length (.val (.list ys)) = ws ++ [.val (.list ys)] := by
      rw [List.set_append_right _ _ (Nat.le_refl _)]
      simp
    rw [e] at h2
    exact h2
abbrev OW (S : Type := Option Pen) := (En S) → (Tk → (En S) → Prop) → Prop
abbrev DW (S : Type := Option Pen) := (En S) → (Rs → (En S) → Prop) → Prop
abbrev BW (S : Type := Option Pen) := (En S) → (Bool → (En S) → Prop) → Prop
abbrev AW (S : Type := Option Pen) := (En S) → (List Tk → (En S) → Prop) → Prop
def liftO (K : Fg) (t : (OW S)) : TE := fun σ H Q => ∃ B pa τ F ρ θ P, Rel K B pa (σ ++ τ) H F (ρ.sl ++ θ) ρ.pn ∧ ρ.sl.length = σ.length ∧ t ρ P ∧
  ∀ k ρ' v H' F', P k ρ' → ρ'.sl.length = σ.length → Rel K B pa (σ ++ τ ++ [some v]) H' F' (ρ'.sl ++ θ ++ [k.sl]) ρ'.pn → (∀ i, k = .slot i → σ[i]? = some (some v)) → Q v H'
def liftT (K : Fg) (t : (BW S)) : TT := fun σ H Q => ∃ B pa τ F ρ θ P, Rel K B pa (σ ++ τ) H F (ρ.sl ++ θ) ρ.pn ∧ ρ.sl.length = σ.length ∧ t ρ P ∧
  ∀ b ρ' H' F', P b ρ' → ρ'.sl.length = σ.length → Rel K B pa (σ ++ τ) H' F' (ρ'.sl ++ θ) ρ'.pn → Q b H'
def liftA (K : Fg) (t : (AW S)) : TA := fun σ H Q => ∃ B pa τ F ρ θ P, Rel K B pa (σ ++ τ) H F (ρ.sl ++ θ) ρ.pn ∧ ρ.sl.length = σ.length ∧ t ρ P ∧
  ∀ ks ρ' vs H' F', P ks ρ' → ρ'.sl.length = σ.length → ks.length = vs.length → Rel K B pa (σ ++ τ ++ vs.map some) H' F' (ρ'.sl ++ θ ++ ks.map Tk.sl) ρ'.pn →
    (∀ (j : Nat) i v, ks[j]? = some (.slot i) → vs[j]? = some v → σ[i]? = some (some v)) → Q vs H'
def tmpD (t : (DW S)) : (OW S) := fun ρ P => t ρ fun r ρ' => P (.tmp r) ρ'
abbrev CO (X : Cx) (e : Expr) (t : (OW S)) : Prop := PE X e (liftO X.K t)
abbrev CE (X : Cx) (e : Expr) (t : (DW S)) : Prop := PE X e (liftO X.K (tmpD t))
abbrev CT (X : Cx) (e : Expr) (t : (BW S)) : Prop := PT X e (liftT X.K t)
abbrev CW (X : Cx) (e : Expr) (t : (BW S)) : Prop := PW X e (liftT X.K t)
abbrev CA (X : Cx) (es : List Expr) (t : (AW S)) : Prop := PA X es (liftA X.K t)
section
variable {X : Cx} {e a b c : Expr} {es : List Expr} {t u : TE}
theorem pe_mono (h : PE X e t) (m : ∀ σ H Q, u σ H Q → t σ H Q) : PE X e u := ⟨fun pins s σ H Q I q => h.run pins s σ H Q I (m σ H Q q)⟩
theorem pt_mono {t u : TT} (h : PT X e t) (m : ∀ σ H Q, u σ H Q → t σ H Q) : PT X e u := ⟨fun pins s σ H Q I q => h.run pins s σ H Q I (m σ H Q q)⟩
theorem pw_mono {t u : TT} (h : PW X e t) (m : ∀ σ H Q, u σ H Q → t σ H Q) : PW X e u := ⟨fun w pins s σ H Q I q => h.run w pins s σ H Q I (m σ H Q q)⟩
theorem pa_mono {t u : TA} (h : PA X es t) (m : ∀ σ H Q, u σ H Q → t σ H Q) : PA X es u := ⟨fun pos pins s σ H Q I q => h.run pos pins s σ H Q I (m σ H Q q)⟩
def hasS (ρ : List Sl) (i : Nat) : Bool := match ρ[i]? with
  | some .un => false
  | some _ => true
  | none => false
def oSlot (i : Nat) : (OW S) := fun ρ P => hasS ρ.sl i = true ∧ P (.slot i) ρ
theorem has_val {K : Fg} {B : Bs} {pa : Option Addr} {zs : List (Option V)} {H F : Hp} {pn : S} {ρ : List Sl} {θ : List Sl} {i : Nat} (R : Rel K B pa zs H F (ρ ++ θ) pn) (h : hasS ρ i = true) : ∃ v, zs[i]? = some (some v) := by
  unfold hasS at h
  cases q : ρ[i]? with
  | none => rw [q] at h; cases h
  | some s =>
    rw [q] at h
    obtain ⟨o, h1, h2⟩ := R.sl i s (by rw [List.getElem?_append_left (List.getElem?_eq_some_iff.mp q).1]; exact q)
    cases s with
    | un => cases h
    | val d => obtain ⟨v, rfl, _⟩ := h2; exact ⟨v, h1⟩
    | own d => obtain ⟨a, vs, rfl, _⟩ := h2; exact ⟨_, h1⟩
    | bor d => obtain ⟨a, vs, rfl, _⟩ := h2; exact ⟨_, h1⟩
    | pen => obtain ⟨a, _, rfl⟩ := h2; exact ⟨_, h1⟩
    | scr ns => obtain ⟨a, rfl, _⟩ := h2; exact ⟨_, h1⟩
    | ref a => subst h2; exact ⟨_, h1⟩
theorem left_get {α : Type} {l m : List α} {i : Nat} {x : α} (h : i < l.length) (e : (l ++ m)[i]? = some x) : l[i]? = some x := by rwa [List.getElem?_append_left h] at e
theorem hasS_lt {ρ : List Sl} {i : Nat} (h : hasS ρ i = true) : i < ρ.length := by
  unfold hasS at h
  cases q : ρ[i]? with
  | none => rw [q] at h; cases h
  | some s => exact (List.getElem?_eq_some_iff.mp q).1
theorem co_slot (i : Nat) {x : Str} {pos : Pos} (hN : X.N[i]? = some x := by rfl) (hv : Vis X.env.scope x := by first | exact Or.inl rfl | exact Or.inr (Or.inl rfl) | exact Or.inr (Or.inr rfl)) (hd : (x == ("__debug__" : Str)) = false := by decide)
    (hcd : (x == ("__classdict__" : Str)) = false := by decide) : CO (S := S) X (.Name x pos) (oSlot i) := pe_mono (pe_var hN hv hd hcd) fun σ H Q ⟨B, pa, τ, F, ρ, θ, P, R, hl, ⟨h1, h2⟩, q⟩ => by
  obtain ⟨v, hv⟩ := has_val R h1
  have hv' := left_get (by rw [← hl]; exact hasS_lt h1) hv
  exact ⟨v, hv', q _ _ v H F h2 hl (R.pushUn _) fun j e => by cases e; exact hv'⟩
def oFix (i : Nat) : (OW S) := fun ρ P => match ρ.sl[i]? with
  | some (.val d) => P (.tmp (.val d)) ρ
  | some (.own xs) => P (.tmp (.val (.list xs))) { ρ with sl := ρ.sl.set i (.val (.list xs)) }
  | some (.bor xs) => P (.bt xs) ρ
  | _ => False
theorem co_fix (i : Nat) {x : Str} {pos : Pos} (hN : X.N[i]? = some x := by rfl) (hv : Vis X.env.scope x := by first | exact Or.inl rfl | exact Or.inr (Or.inl rfl) | exact Or.inr (Or.inr rfl)) (hd : (x == ("__debug__" : Str)) = false := by decide)
    (hcd : (x == ("__classdict__" : Str)) = false := by decide) : CO (S := S) X (.Name x pos) (oFix i) := pe_mono (pe_var hN hv hd hcd) fun σ H Q ⟨B, pa, τ, F, ρ, θ, P, R, hl, h, q⟩ => by
  unfold oFix at h
  cases hi : ρ.sl[i]? with
  | none => rw [hi] at h; exact h.elim
  | some s =>
    rw [hi] at h
    have hlt := (List.getElem?_eq_some_iff.mp hi).1
    have hw : (ρ.sl ++ θ)[i]? = some s := by rw [List.getElem?_append_left hlt]; exact hi
    cases s with
    | un => exact h.elim
    | pen => exact h.elim
    | scr ns => exact h.elim
    | ref a => exact h.elim
    | bor xs =>
      obtain ⟨o, h1, h2⟩ := R.sl i _ hw
      have h3 := h2
      obtain ⟨a, vs, rfl, _⟩ := h2
      exact ⟨_, left_get (by rw [← hl]; exact hlt) h1, q _ _ _ H F h hl (R.push h3 fun _ => nofun) (fun j e => by cases e)⟩
    | val d =>
      obtain ⟨o, h1, v, rfl, h2⟩ := R.sl i _ hw
      exact ⟨v, left_get (by rw [← hl]; exact hlt) h1, q _ _ v H F h hl (R.pushVal h2) (fun j e => by cases e)⟩
    | own xs =>
      obtain ⟨F', v, h1, h2, h3, h4⟩ := R.freeze hw
      rw [List.set_append_left _ _ hlt] at h2
      exact ⟨v, left_get (by rw [← hl]; exact hlt) h3, q _ _ v H F' h (by simpa using hl) (h2.pushVal h4) (fun j e => by cases e)⟩
def dVar (i : Nat) : (DW S) := fun ρ P => match ρ.sl[i]? with
  | some (.val d) => P (.val d) ρ
  | some (.own xs) => P (.val (.list xs)) { ρ with sl := ρ.sl.set i (.val (.list xs)) }
  | _ => False
theorem ce_var (i : Nat) {x : Str} {pos : Pos} (hN : X.N[i]? = some x := by rfl) (hv : Vis X.env.scope x := by first | exact Or.inl rfl | exact Or.inr (Or.inl rfl) | exact Or.inr (Or.inr rfl)) (hd : (x == ("__debug__" : Str)) = false := by decide)
    (hcd : (x == ("__classdict__" : Str)) = false := by decide) : CE (S := S) X (.Name x pos) (dVar i) := pe_mono (pe_var hN hv hd hcd) fun σ H Q ⟨B, pa, τ, F, ρ, θ, P, R, hl, h, q⟩ => by
  have h : dVar i ρ fun r ρ' => P (.tmp r) ρ' := h
  unfold dVar at h
  cases hi : ρ.sl[i]? with
  | none => rw [hi] at h; exact h.elim
  | some s =>
    rw [hi] at h
    have hlt := (List.getElem?_eq_some_iff.mp hi).1
    have hw : (ρ.sl ++ θ)[i]? = some s := by rw [List.getElem?_append_left hlt]; exact hi
    cases s with
    | un => exact h.elim
    | bor _ => exact h.elim
    | pen => exact h.elim
    | scr ns => exact h.elim
    | ref a => exact h.elim
    | val d =>
      obtain ⟨o, h1, v, rfl, h2⟩ := R.sl i _ hw
      exact ⟨v, left_get (by rw [← hl]; exact hlt) h1, q _ _ v H F h hl (R.pushVal h2) (fun j e => by cases e)⟩
    | own xs =>
      obtain ⟨F', v, h1, h2, h3, h4⟩ := R.freeze hw
      rw [List.set_append_left _ _ hlt] at h2
      exact ⟨v, left_get (by rw [← hl]; exact hlt) h3, q _ _ v H F' h (by simpa using hl) (h2.pushVal h4) (fun j e => by cases e)⟩
def dC (d : D) : (DW S) := fun ρ P => P (.val d) ρ
theorem ce_const {d : D} {v : V} (h : PE X e (tC v)) (hd : ∀ F, DR X.K F d v) : CE (S := S) X e (dC d) := pe_mono h fun σ H Q ⟨B, pa, τ, F, ρ, θ, P, R, hl, h, q⟩ => q _ _ v H F h hl (R.pushVal (hd F)) (fun j e => by cases e)
theorem ce_int {i : Int} {j pos} : CE (S := S) X (.Constant (.int i) j pos) (dC (.int i)) := ce_const pe_int fun _ => DR.int_.mpr rfl
theorem ce_bl {i : Bool} {j pos} : CE (S := S) X (.Constant (.bool i) j pos) (dC (.bool i)) := ce_const pe_bl fun _ => DR.bl_.mpr rfl
theorem ce_str {i : Str} {j pos} : CE (S := S) X (.Constant (.str i) j pos) (dC (.str i)) := ce_const pe_str fun _ => DR.str_.mpr rfl
theorem ce_non {j pos} : CE (S := S) X (.Constant .none j pos) (dC .none) := ce_const pe_non fun _ => DR.non_.mpr rfl
def OpD (X : Cx) (f : Value → Value → Sem Value) (g : D → D → Option Rs) : Prop :=
  OpR X f fun x y H Q => ∃ F d e r, (Szs H ∧ Le F H) ∧ RdD X.K H F d x ∧ RdD X.K H F e y ∧ g d e = some r ∧ Gives X.K F H r Q
def dBin (g : D → D → Option Rs) (ta tb : (OW S)) : (DW S) := fun ρ P => ta ρ fun k1 ρ1 => tb ρ1 fun k2 ρ2 => gets (k1.rd ρ2) fun d1 => gets (k2.rd ρ2) fun d2 => gets (g d1 d2) fun r => P r ρ2
theorem bin_step {K : Fg} {g : D → D → Option Rs} {ta tb : (OW S)} {σ : L2.St} {H : Hp} {Q : VK} (h : liftO K (tmpD (dBin g ta tb)) σ H Q) :
    liftO K ta σ H fun x H1 => liftO K tb σ H1 fun y H2 => ∃ F d e r, (Szs H2 ∧ Le F H2) ∧ RdD K H2 F d x ∧ RdD K H2 F e y ∧ g d e = some r ∧ Gives K F H2 r Q := by
  obtain ⟨B, pa, τ, F, ρ, θ, P, R, hl, h, q⟩ := h
  refine ⟨B, pa, τ, F, ρ, θ, _, R, hl, h, fun k1 ρ1 v1 H1 F1 h1 hl1 R1 s1 => ?_⟩
  refine ⟨B, pa, τ ++ [some v1], F1, ρ1, θ ++ [k1.sl], _, by rw [← List.append_assoc, ← List.append_assoc]; exact R1, hl1, h1, fun k2 ρ2 v2 H2 F2 h2 hl2 R2 s2 => ?_⟩
  rw [← List.append_assoc, ← List.append_assoc] at R2
  obtain ⟨d1, e1, h2⟩ := gets_elim h2
  obtain ⟨d2, e2, h2⟩ := gets_elim h2
  obtain ⟨r, e3, h2⟩ := gets_elim h2
  have hρ : ∀ (l : List Sl) i, i < ρ2.sl.length → (ρ2.sl ++ l)[i]? = ρ2.sl[i]? := fun l i hi => List.getElem?_append_left hi
  have hlen : (σ ++ τ).length = (ρ2.sl ++ θ).length := R2.pop.pop.len
  have hsz : ∀ {i : Nat} {v : V} (l : List (Option V)), σ[i]? = some (some v) → (σ ++ l)[i]? = some (some v) := fun l h => by
    rw [List.getElem?_append_left (List.getElem?_eq_some_iff.mp h).1]; exact h
  refine ⟨F2, d1, d2, r, ⟨R2.sz, R2.fh⟩, ?_, ?_, e3, R2.pop.pop.gives fun v H' F' R' => q _ _ v H' F' h2 hl2 R' (fun j e => by cases e)⟩
  · refine tk_read (k := k1) (ρ := ρ2) (c := (ρ2.sl ++ θ).length) R2 (app_get (app_last _ _)) (app_get (by rw [← hlen]; exact app_last _ _)) (fun i e => ?_) (fun i hi => ?_) e1
    · rw [List.append_assoc, List.append_assoc]; exact hsz _ (s1 i e)
    · rw [List.append_assoc, List.append_assoc]; exact hρ _ i hi
  · refine tk_read (k := k2) (ρ := ρ2) (c := (ρ2.sl ++ θ ++ [k1.sl]).length) R2 (app_last _ _) ?_ (fun i e => ?_) (fun i hi => ?_) e2
    · rw [show (ρ2.sl ++ θ ++ [k1.sl]).length = (σ ++ τ ++ [some v1]).length from R2.pop.len.symm]
      exact app_last _ _
    · rw [List.append_assoc, List.append_assoc]; exact hsz _ (s2 i e)
    · rw [List.append_assoc, List.append_assoc]; exact hρ _ i hi
variable {ta tb tc : (OW S)} {pos : Pos} {g : D → D → Option Rs}
theorem ce_bin {op : Operator} (ho : OpD X (binaryOp op) g) (ha : CO (S := S) X a ta) (hb : CO (S := S) X b tb) : CE (S := S) X (.BinOp a op b pos) (dBin g ta tb) := pe_mono (pe_op ho ha hb) fun _ _ _ h => bin_step h
theorem ce_cmp {op : CmpOp} (ho : OpD X (compareOp op) g) (ha : CO (S := S) X a ta) (hb : CO (S := S) X b tb) (hm : behindInMarks op b = false := by first | exact nomark _ | rfl) : CE (S := S) X (.Compare a [op] [b] pos) (dBin g ta tb) := pe_mono (pe_cmpR ho ha hb hm) fun _ _ _ h => bin_step h
theorem ce_ix (ho : IxR X fun x y H Q => ∃ F d e r, (Szs H ∧ Le F H) ∧ RdD X.K H F d x ∧ RdD X.K H F e y ∧ g d e = some r ∧ Gives X.K F H r Q) (ha : CO (S := S) X a ta) (hb : CO (S := S) X b tb) (hs : PlainIx b := by exact fun _ _ => rfl) : CE (S := S) X (.Subscript a b pos) (dBin g ta tb) :=
  pe_mono (pe_ix ho ha hb hs) fun _ _ _ h => bin_step h
theorem ce_cv {t : (DW S)} (h : CE (S := S) X e t) : CO (S := S) X e fun ρ P => t ρ fun r ρ' => P (.tmp (.val r.d)) ρ' := pe_mono h fun σ H Q ⟨B, pa, τ, F, ρ, θ, P, R, hl, h, q⟩ => by
  refine ⟨B, pa, τ, F, ρ, θ, fun k ρ' => ∃ r, k = .tmp r ∧ P (.tmp (.val r.d)) ρ', R, hl, ?_, fun k ρ' v H' F' ⟨r, hk, hp⟩ hl' R' _ => ?_⟩
  · have : (fun (r : Rs) (ρ' : (En S)) => P (.tmp (.val r.d)) ρ') = fun r ρ' => ∃ r', Tk.tmp r = Tk.tmp r' ∧ P (.tmp (.val r'.d)) ρ' := by
      funext r ρ'
      apply propext
      constructor
      · intro h; exact ⟨r, rfl, h⟩
      · rintro ⟨r', e, h⟩; cases e; exact h
    show t ρ fun r ρ' => ∃ r', Tk.tmp r = Tk.tmp r' ∧ P (.tmp (.val r'.d)) ρ'
    rw [← this]
    exact h
  · subst hk
    obtain ⟨F'', _, R''⟩ := freezeLast R'
    exact q _ _ v H' F'' hp hl' R'' (fun i e => by cases e)
end
end Dk
namespace Dk
open PySem PySem.Spec PyProof.Rows L2
variable {S : Type} [StK S]
theorem read_at {K : Fg} {B : Bs} {pa : Option Addr} {σ : L2.St} {τ : List (Option V)} {H F : Hp} {ρ : En S} {θ : List Sl} {k : Tk} {v : V} {d : D} (R : Rel K B pa (σ ++ τ) H F (ρ.sl ++ θ) ρ.pn) (hl : ρ.sl.length = σ.length) (c : Nat)
    (hτ : τ[c]? = some (some v)) (hθ : θ[c]? = some k.sl) (hs : ∀ i, k = .slot i → σ[i]? = some (some v)) (h : k.rd ρ = some d) : RdD K H F d v := by
  refine tk_read (k := k) (ρ := ρ) (c := ρ.sl.length + c) R ?_ ?_ (fun i e => ?_) (fun i hi => List.getElem?_append_left hi) h
  · rw [List.getElem?_append_right (Nat.le_add_right _ _), Nat.add_sub_cancel_left]; exact hθ
  · rw [List.getElem?_append_right (by rw [hl]; exact Nat.le_add_right _ _), hl, Nat.add_sub_cancel_left]; exact hτ
  · have := hs i e
    rw [List.getElem?_append_left (List.getElem?_eq_some_iff.mp this).1]; exact this
theorem getN {α : Type} {l : List α} {x : α} {n : Nat} (h : l.length = n) : (l ++ [x])[n]? = some x := by subst h; exact app_last _ _
def D.bool? : D → Option Bool
  | .bool b => some b
  | _ => none
@[simp] theorem D.bool?_bool (b : Bool) : D.bool? (.bool b) = some b := rfl
theorem D.bool?_some {d : D} {b : Bool} (h : D.bool? d = some b) : d = .bool b := by
  cases d <;> cases h
  rfl
section
variable {X : Cx} {e a b c : Expr} {es : List Expr} {t u : (OW S)} {pos : Pos}
def dTst (t : (OW S)) : (BW S) := fun ρ P => t ρ fun k ρ' => gets ((k.rd ρ').bind D.bool?) fun b => P b ρ'
theorem tst_step {K : Fg} {t : (OW S)} {σ : L2.St} {H : Hp} {Q : Bool → Hp → Prop} (h : liftT K (dTst t) σ H Q) : liftO K t σ H fun x H' => ∃ k, x = .bl k ∧ Q k H' := by
  obtain ⟨B, pa, τ, F, ρ, θ, P, R, hl, h, q⟩ := h
  refine ⟨B, pa, τ, F, ρ, θ, _, R, hl, h, fun k ρ' v H' F' hp hl' R' hs => ?_⟩
  obtain ⟨b, e, hp⟩ := gets_elim hp
  obtain ⟨d, e1, e2⟩ := Option.bind_eq_some_iff.mp e
  have e3 := D.bool?_some e2
  subst e3
  have hτ : τ.length = θ.length := by have := R'.pop.len; simp at this; omega
  have rd := read_at (τ := τ ++ [some v]) (θ := θ ++ [k.sl]) (by rw [← List.append_assoc, ← List.append_assoc]; exact R') hl' τ.length (app_last _ _) (getN hτ.symm) hs e1
  exact ⟨b, rd.bool, q b ρ' H' F' hp hl' R'.pop⟩
theorem ct_val (h : CO (S := S) X e t) (he : ∀ whole, isTrue e X.env whole = (do let v ← whole; standAt e.pos; holding [v] (truthy v)) := by intro _; rfl) : CT (S := S) X e (dTst t) := pt_mono (pt_val h he) fun _ _ _ q => tst_step q
theorem ct_cmp {op : CmpOp} {g : D → D → Option Rs} (ho : OpD X (compareOp op) g) (ha : CO (S := S) X a t) (hb : CO (S := S) X b u) (hm : behindInMarks op b = false := by first | exact nomark _ | rfl) : CT (S := S) X (.Compare a [op] [b] pos) (dTst (tmpD (dBin g t u))) :=
  pt_mono (pt_cmpR ho ha hb hm) fun _ _ _ q => by
    obtain h := tst_step q
    exact bin_step h
variable {tA tB' tC : (BW S)} {rest : List Expr}
def dNot (t : (BW S)) : (BW S) := fun ρ P => t ρ fun b ρ' => P (!b) ρ'
theorem ct_not (h : CT (S := S) X a tA) : CT (S := S) X (.UnaryOp .Not a pos) (dNot tA) := pt_mono (pt_not h) fun σ H Q ⟨B, pa, τ, F, ρ, θ, P, R, hl, h, q⟩ =>
  ⟨B, pa, τ, F, ρ, θ, _, R, hl, h, fun b ρ' H' F' hp hl' R' => q (!b) ρ' H' F' hp hl' R'⟩
def dAnd (t u : (BW S)) : (BW S) := fun ρ P => t ρ fun b ρ' => if b = true then u ρ' P else P false ρ'
def dOr (t u : (BW S)) : (BW S) := fun ρ P => t ρ fun b ρ' => if b = true then P true ρ' else u ρ' P
theorem cw_or1 (ha : CT (S := S) X a tA) : CW (S := S) X (.BoolOp .Or [a] pos) tA := pw_or1 ha
theorem cw_or (ha : CT (S := S) X a tA) (hb : CW (S := S) X (.BoolOp .Or (b :: rest) pos) tB') : CW (S := S) X (.BoolOp .Or (a :: b :: rest) pos) (dOr tA tB') := pw_mono (pw_or ha hb) fun σ H Q ⟨B, pa, τ, F, ρ, θ, P, R, hl, h, q⟩ =>
  ⟨B, pa, τ, F, ρ, θ, _, R, hl, h, fun b ρ' H' F' hp hl' R' => by
    cases b with
    | true => exact iteT (q true ρ' H' F' hp hl' R')
    | false => exact iteF ⟨B, pa, τ, F', ρ', θ, P, R', hl', hp, q⟩⟩
theorem ct_w (h : CW (S := S) X e tA) : CT (S := S) X e tA := h.pt
def dAndV (t u : (DW S)) : (DW S) := fun ρ P => t ρ fun r ρ1 => gets (D.bool? r.d) fun b => if b = true then u ρ1 P else P (.val (.bool false)) ρ1
def dOrV (t u : (DW S)) : (DW S) := fun ρ P => t ρ fun r ρ1 => gets (D.bool? r.d) fun b => if b = true then P (.val (.bool true)) ρ1 else u ρ1 P
variable {tv uv : (DW S)}
end
end Dk
namespace Dk
open PySem PySem.Spec PyProof.Rows L2
variable {S : Type} [StK S]
theorem toE {K : Fg} {t : (DW S)} {σ : L2.St} {H : Hp} {Q : VK} (h : liftO K (tmpD t) σ H Q) : ∃ B pa τ F ρ θ, ∃ P : Rs → (En S) → Prop, Rel K B pa (σ ++ τ) H F (ρ.sl ++ θ) ρ.pn ∧ ρ.sl.length = σ.length ∧ t ρ P ∧
    ∀ r ρ' v H' F', P r ρ' → ρ'.sl.length = σ.length → Rel K B pa (σ ++ τ ++ [some v]) H' F' (ρ'.sl ++ θ ++ [r.sl]) ρ'.pn → Q v H' := by
  obtain ⟨B, pa, τ, F, ρ, θ, P, R, hl, h, q⟩ := h
  exact ⟨B, pa, τ, F, ρ, θ, fun r ρ' => P (.tmp r) ρ', R, hl, h, fun r ρ' v H' F' hp hl' R' => q (.tmp r) ρ' v H' F' hp hl' R' fun i e => by cases e⟩
theorem ofE {K : Fg} {t : (DW S)} {σ : L2.St} {H : Hp} {Q : VK} (h : ∃ B pa τ F ρ θ, ∃ P : Rs → (En S) → Prop, Rel K B pa (σ ++ τ) H F (ρ.sl ++ θ) ρ.pn ∧ ρ.sl.length = σ.length ∧ t ρ P ∧
    ∀ r ρ' v H' F', P r ρ' → ρ'.sl.length = σ.length → Rel K B pa (σ ++ τ ++ [some v]) H' F' (ρ'.sl ++ θ ++ [r.sl]) ρ'.pn → Q v H') : liftO K (tmpD t) σ H Q := by
  obtain ⟨B, pa, τ, F, ρ, θ, P, R, hl, h, q⟩ := h
  refine ⟨B, pa, τ, F, ρ, θ, fun k ρ' => match k with | .tmp r => P r ρ' | _ => False, R, hl, h, fun k ρ' v H' F' hp hl' R' _ => ?_⟩
  cases k with
  | tmp r => exact q r ρ' v H' F' hp hl' R'
  | slot i => exact hp.elim
  | bt i => exact hp.elim
  | fb i => exact hp.elim
section
variable {X : Cx} {e a b c : Expr} {es : List Expr} {t u : (OW S)} {pos : Pos} {tv uv : (DW S)} {rest : List Expr} {tA tB' : (BW S)}
def dNotV (t : (DW S)) : (DW S) := fun ρ P => t ρ fun r ρ1 => gets (D.bool? r.d) fun b => P (.val (.bool (!b))) ρ1
def dIf (t : (BW S)) (u v : (OW S)) : (OW S) := fun ρ P => t ρ fun b ρ1 => if b = true then u ρ1 P else v ρ1 P
def dIfE (t : (BW S)) (u v : (DW S)) : (DW S) := fun ρ P => t ρ fun b ρ1 => if b = true then u ρ1 P else v ρ1 P
def Rs.b? (r : Rs) : Option Bool := D.bool? r.d
def dChain (g g' : D → D → Option Rs) (ta tb tc : (OW S)) : (DW S) := fun ρ P => ta ρ fun k1 ρ1 => tb ρ1 fun k2 ρ2 => gets (k1.rd ρ2) fun d1 => gets (k2.rd ρ2) fun d2 => gets ((g d1 d2).bind Rs.b?) fun b =>
  if b = true then tc ρ2 fun k3 ρ3 => gets (k2.rd ρ3) fun d2' => gets (k3.rd ρ3) fun d3 => gets (g' d2' d3) fun r => P r ρ3 else P (.val (.bool false)) ρ2
def dUn (g : D → Option Rs) (t : (OW S)) : (DW S) := fun ρ P => t ρ fun k ρ1 => gets (k.rd ρ1) fun d => gets (g d) fun r => P r ρ1
def UnD (K : Fg) (g : D → Option Rs) : V → Hp → VK → Prop := fun x H Q => ∃ F d r, (Szs H ∧ Le F H) ∧ RdD K H F d x ∧ g d = some r ∧ Gives K F H r Q
theorem un_step {K : Fg} {g : D → Option Rs} {t : (OW S)} {σ : L2.St} {H : Hp} {Q : VK} (h : liftO K (tmpD (dUn g t)) σ H Q) : liftO K t σ H fun x H1 => UnD K g x H1 Q := by
  obtain ⟨B, pa, τ, F, ρ, θ, P, R, hl, h, q⟩ := toE h
  refine ⟨B, pa, τ, F, ρ, θ, _, R, hl, h, fun k1 ρ1 v1 H1 F1 h1 hl1 R1 s1 => ?_⟩
  obtain ⟨d1, e1, h1⟩ := gets_elim h1
  obtain ⟨r, e2, h1⟩ := gets_elim h1
  have hτ : τ.length = θ.length := by have := R1.pop.len; simp at this; omega
  have R2 : Rel K B pa (σ ++ (τ ++ [some v1])) H1 F1 (ρ1.sl ++ (θ ++ [k1.sl])) ρ1.pn := by simpa only [List.append_assoc] using R1
  exact ⟨F1, d1, r, ⟨R1.sz, R1.fh⟩, read_at R2 hl1 τ.length (app_last _ _) (getN hτ.symm) s1 e1, e2, R1.pop.gives fun v H' F' R' => q _ _ v H' F' h1 hl1 R'⟩
theorem ce_un {op : UnaryOp} {g : D → Option Rs} (ho : UnR X (unaryOp op) (UnD X.K g)) (ha : CO (S := S) X a t) : CE (S := S) X (.UnaryOp op a pos) (dUn g t) := pe_mono (pe_un ho ha) fun _ _ _ h => un_step h
def aNil : (AW S) := fun ρ P => P [] ρ
def aCons (t : (OW S)) (u : (AW S)) : (AW S) := fun ρ P => t ρ fun k ρ1 => u ρ1 fun ks ρ2 => P (k :: ks) ρ2
theorem ca_nil : CA (S := S) X [] aNil := pa_mono pa_nil fun σ H Q ⟨B, pa, τ, F, ρ, θ, P, R, hl, h, q⟩ => q [] ρ [] H F h hl rfl (by simpa using R) (fun j i v e => by simp at e)
theorem ca_cons {ta : (OW S)} {tr : (AW S)} (ha : CO (S := S) X a ta) (hr : CA (S := S) X es tr) (hs : starEach (a :: es) X.env = (false, eval a X.env) :: starEach es X.env := by rfl) : CA (S := S) X (a :: es) (aCons ta tr) :=
  pa_mono (pa_cons ha hr hs) fun σ H Q ⟨B, pa, τ, F, ρ, θ, P, R, hl, h, q⟩ => by
    refine ⟨B, pa, τ, F, ρ, θ, _, R, hl, h, fun k1 ρ1 v1 H1 F1 h1 hl1 R1 s1 => ?_⟩
    refine ⟨B, pa, τ ++ [some v1], F1, ρ1, θ ++ [k1.sl], _, by simpa only [List.append_assoc] using R1, hl1, h1, fun ks ρ2 vs H2 F2 h2 hl2 hk R2 s2 => ?_⟩
    refine q (k1 :: ks) ρ2 (v1 :: vs) H2 F2 h2 hl2 (by simp [hk]) (by simpa only [List.append_assoc, List.map_cons, List.singleton_append] using R2) fun j i v e1 e2 => ?_
    cases j with
    | zero =>
      simp at e1 e2
      subst e1 e2
      exact s1 i rfl
    | succ j => exact s2 j i v (by simpa using e1) (by simpa using e2)
def rds (ρ : En S) : List Tk → Option (List D)
  | [] => some []
  | k :: ks => (k.rd ρ).bind fun d => (rds ρ ks).bind fun ds => some (d :: ds)
@[simp] theorem rds_nil {ρ : En S} : rds ρ [] = some [] := rfl
theorem rds_cons {ρ : En S} {k : Tk} {ks : List Tk} : rds ρ (k :: ks) = (k.rd ρ).bind fun d => (rds ρ ks).bind fun ds => some (d :: ds) := rfl
theorem reads_all {K : Fg} {B : Bs} {pa : Option Addr} {σ : L2.St} {H F : Hp} {ρ : En S} (hl : ρ.sl.length = σ.length) : ∀ (ks : List Tk) (vs : List V) (τ : List (Option V)) (θ : List Sl) (ds : List D),
    τ.length = θ.length → ks.length = vs.length → Rel K B pa (σ ++ (τ ++ vs.map some)) H F (ρ.sl ++ (θ ++ ks.map Tk.sl)) ρ.pn → (∀ (j : Nat) i v, ks[j]? = some (.slot i) → vs[j]? = some v → σ[i]? = some (some v)) → rds ρ ks = some ds → RdDs K H F ds vs := by
  intro ks
  induction ks with
  | nil =>
    intro vs τ θ ds _ hk _ _ h
    cases vs with
    | nil => cases h; rfl
    | cons _ _ => simp at hk
  | cons k ks ih =>
    intro vs τ θ ds ht hk R s h
    cases vs with
    | nil => simp at hk
    | cons v vs =>
      rw [rds_cons] at h
      obtain ⟨d, e1, h⟩ := Option.bind_eq_some_iff.mp h
      obtain ⟨ds', e2, h⟩ := Option.bind_eq_some_iff.mp h
      cases h
      refine ⟨v, vs, rfl, ?_, ?_⟩
      · exact read_at R hl τ.length (by simp) (by rw [ht]; simp) (fun i e => s 0 i v (by simp [e]) rfl) e1
      · refine ih vs (τ ++ [some v]) (θ ++ [k.sl]) ds' (by simp [ht]) (by simpa using hk) (by simpa only [List.append_assoc, List.map_cons, List.singleton_append] using R) (fun j i u h1 h2 => s (j + 1) i u (by simpa using h1) (by simpa using h2)) e2
def CallD (X : Cx) (f : Value) (g : List D → Option Rs) : Prop := CallR X f fun xs H Q => ∃ F ds r, (Szs H ∧ Le F H) ∧ RdDs X.K H F ds xs ∧ g ds = some r ∧ Gives X.K F H r Q
def dCB (g : List D → Option Rs) (ta : (AW S)) : (DW S) := fun ρ P => ta ρ fun ks ρ1 => gets (rds ρ1 ks) fun ds => gets (g ds) fun r => P r ρ1
theorem cb_step {K : Fg} {g : List D → Option Rs} {ta : (AW S)} {σ : L2.St} {H : Hp} {Q : VK} (h : liftO K (tmpD (dCB g ta)) σ H Q) : liftA K ta σ H fun vs H1 => ∃ F ds r, (Szs H1 ∧ Le F H1) ∧ RdDs K H1 F ds vs ∧ g ds = some r ∧ Gives K F H1 r Q := by
  obtain ⟨B, pa, τ, F, ρ, θ, P, R, hl, h, q⟩ := toE h
  refine ⟨B, pa, τ, F, ρ, θ, _, R, hl, h, fun ks ρ1 vs H1 F1 h1 hl1 hk R1 s1 => ?_⟩
  obtain ⟨ds, e1, h1⟩ := gets_elim h1
  obtain ⟨r, e2, h1⟩ := gets_elim h1
  have R2 : Rel K B pa (σ ++ τ) H1 F1 (ρ1.sl ++ θ) ρ1.pn := R1.pops (by simp [hk])
  have hτ : τ.length = θ.length := by have := R2.len; simp at this; omega
  exact ⟨F1, ds, r, ⟨R1.sz, R1.fh⟩, reads_all hl1 ks vs τ θ ds hτ hk (by simpa only [List.append_assoc] using R1) s1 e1, e2, R2.gives fun v H' F' R' => q _ _ v H' F' h1 hl1 R'⟩
theorem ce_callB {x : Str} {p : Pos} {id : String} {g : List D → Option Rs} {ta : (AW S)} (hc : CallD X (.builtin id) g) (hm : X.mg x = none) (hv : bootBuiltins x = some (.builtin id)) (ha : CA (S := S) X (a :: es) ta) (hg : Gl X x := by rfl) (hn : x ≠ "__name__" := by decide) (hdb : (x == ("__debug__" : Str)) = false := by decide)
    (he : starEach (a :: es) X.env = (false, eval a X.env) :: starEach es X.env := by rfl) (hpl : (backTo pos (starEach es X.env)).any (·.1) = false := by rfl) : CE (S := S) X (.Call (.Name x p) (a :: es) [] pos) (dCB g ta) :=
  pe_mono (pe_callB hc hg hm hv ha hn hdb he hpl) fun _ _ _ h => cb_step h
theorem ce_callTy {x : Str} {p : Pos} {id : String} {g : List D → Option Rs} {ta : (AW S)} (hc : CallD X (.type id) g) (hm : X.mg x = none) (hv : bootBuiltins x = some (.type id)) (ha : CA (S := S) X (a :: es) ta) (hg : Gl X x := by rfl) (hn : x ≠ "__name__" := by decide) (hdb : (x == ("__debug__" : Str)) = false := by decide)
    (he : starEach (a :: es) X.env = (false, eval a X.env) :: starEach es X.env := by rfl) (hpl : (backTo pos (starEach es X.env)).any (·.1) = false := by rfl) : CE (S := S) X (.Call (.Name x p) (a :: es) [] pos) (dCB g ta) :=
  pe_mono (pe_callTy hc hg hm hv ha hn hdb he hpl) fun _ _ _ h => cb_step h
def vals : List Tk → Option (List D)
  | [] => some []
  | .tmp (.val d) :: ks => (vals ks).bind fun ds => some (d :: ds)
  | _ :: _ => none
theorem vals_rds {ρ : En S} : ∀ {ks : List Tk} {ds : List D}, vals ks = some ds → ks.map Tk.sl = ds.map Sl.val
  | [], ds, h => by cases h; rfl
  | .tmp (.val d) :: ks, ds, h => by
    obtain ⟨ds', e1, h⟩ := Option.bind_eq_some_iff.mp h
    cases h
    rw [List.map_cons, List.map_cons, vals_rds (ρ := ρ) e1]
    rfl
  | .tmp (.own _) :: ks, ds, h => by cases h
  | .slot _ :: ks, ds, h => by cases h
  | .bt _ :: ks, ds, h => by cases h
theorem vals_DRs {K : Fg} {B : Bs} {pa : Option Addr} {H F : Hp} {pn : S} : ∀ (ds : List D) (vs : List V) (zs : List (Option V)) (ws : List Sl), ds.length = vs.length → zs.length = ws.length → Rel K B pa (zs ++ vs.map some) H F (ws ++ ds.map Sl.val) pn → DRs K F ds vs := by
  intro ds
  induction ds with
  | nil =>
    intro vs _ _ h _ _
    cases vs with
    | nil => exact .nil
    | cons _ _ => simp at h
  | cons d ds ih =>
    intro vs zs ws h hz R
    cases vs with
    | nil => simp at h
    | cons v vs =>
      refine .cons ?_ (ih vs (zs ++ [some v]) (ws ++ [.val d]) (by simpa using h) (by simp [hz]) (by simpa only [List.append_assoc, List.map_cons, List.singleton_append] using R))
      obtain ⟨o, h1, u, h2, h3⟩ := R.sl ws.length (.val d) (by simp)
      rw [← hz] at h1
      simp at h1
      subst h1
      cases h2
      exact h3
def dDisp (mk : List D → Rs) (ta : (AW S)) : (DW S) := fun ρ P => ta ρ fun ks ρ1 => gets (vals ks) fun ds => ds.length ≤ 1000 ∧ P (mk ds) ρ1
theorem disp_step {K : Fg} {mk : List D → Rs} {ta : (AW S)} {σ : L2.St} {H : Hp} {Q : VK} (h : liftO K (tmpD (dDisp mk ta)) σ H Q) : liftA K ta σ H fun vs H1 => vs.length ≤ sizeLine ∧ ∃ F ds, DRs K F ds vs ∧ Gives K F H1 (mk ds) Q := by
  obtain ⟨B, pa, τ, F, ρ, θ, P, R, hl, h, q⟩ := toE h
  refine ⟨B, pa, τ, F, ρ, θ, _, R, hl, h, fun ks ρ1 vs H1 F1 h1 hl1 hk R1 s1 => ?_⟩
  obtain ⟨ds, e1, hz, h1⟩ := gets_elim h1
  have e2 := vals_rds (ρ := ρ1) e1
  have R2 : Rel K B pa (σ ++ τ) H1 F1 (ρ1.sl ++ θ) ρ1.pn := R1.pops (by simp [hk])
  rw [e2] at R1
  have hds : ds.length = vs.length := by have := congrArg List.length e2; simp at this; omega
  exact ⟨Nat.le_trans (by omega : vs.length ≤ 1000) (by decide), F1, ds, vals_DRs ds vs _ _ hds R2.len R1, R2.gives fun v H' F' R' => q _ _ v H' F' h1 hl1 R'⟩
theorem ce_tup {x1} {ta : (AW S)} (h : CA (S := S) X es ta) : CE (S := S) X (.Tuple es x1 pos) (dDisp (fun ds => .val (.tuple ds)) ta) := pe_mono (pe_tupC h) fun σ H Q q => by
  obtain ⟨B, pa, τ, F, ρ, θ, P, R, hl, h, q⟩ := disp_step q
  refine ⟨B, pa, τ, F, ρ, θ, P, R, hl, h, fun ks ρ' vs H' F' hp hl' hk R' s => ?_⟩
  obtain ⟨h1, F2, ds, h2, h3⟩ := q ks ρ' vs H' F' hp hl' hk R' s
  exact ⟨h1, h3.2.1 ds vs rfl h2 h1⟩
theorem ce_lst {ta : (AW S)} (h : CA (S := S) X es ta) : CE (S := S) X (.List es pos) (dDisp (fun ds => .own ds) ta) := pe_mono (pe_lst h) fun σ H Q q => by
  obtain ⟨B, pa, τ, F, ρ, θ, P, R, hl, h, q⟩ := disp_step q
  refine ⟨B, pa, τ, F, ρ, θ, P, R, hl, h, fun ks ρ' vs H' F' hp hl' hk R' s => ?_⟩
  obtain ⟨h1, F2, ds, h2, h3⟩ := q ks ρ' vs H' F' hp hl' hk R' s
  exact ⟨h1, fun p hp => h3 vs p h2 h1 hp⟩
end
end Dk
namespace Dk
open PySem PySem.Spec PyProof.Rows L2
variable {S : Type} [StK S]
structure XO (X : Cx) (k : Nat) : Prop where
  calm : X.calm = true
  room : Room k X.A
  gd : X.A.guards = some []
  nd : X.N.Nodup
  pass : PassesOwn (model X.prog X.w) X.A X.env X.xe
theorem XO.mono {X : Cx} {k j : Nat} (h : XO X k) (hj : j ≤ k) : XO X j := ⟨h.calm, h.room.mono hj, h.gd, h.nd, h.pass⟩
theorem some_ite {α : Type} {c : Prop} [Decidable c] {a b : α} (h : (if c then some a else none) = some b) : c ∧ a = b := by
  by_cases hc : c
  · rw [if_pos hc] at h; exact ⟨hc, Option.some.inj h⟩
  · rw [if_neg hc] at h; cases h
def bl (b : Bool) : Rs := .val (.bool b)
def ri (i : Int) : Rs := .val (.int i)
section
variable {K : Fg} {F H : Hp} {Q : VK}
theorem Gives.bl_ {b : Bool} (q : Gives K F H (bl b) Q) : Q (.bl b) H := q.1 _ (DR.bl_.mpr rfl)
theorem Gives.ri_ {i : Int} (q : Gives K F H (ri i) Q) : Q (.int i) H := q.1 _ (DR.int_.mpr rfl)
theorem Gives.str_ {x : Str} (q : Gives K F H (.val (.str x)) Q) : Q (.str x) H := q.1 _ (DR.str_.mpr rfl)
theorem Gives.non_ (q : Gives K F H (.val .none) Q) : Q .non H := q.1 _ (DR.non_.mpr rfl)
end
instance {i j : Int} : Decidable (CMulW i j) := by unfold CMulW; infer_instance
instance {i j : Int} : Decidable (CDivW i j) := by unfold CDivW; infer_instance
instance {i j : Int} : Decidable (CPow i j) := by unfold CPow; infer_instance
def addD : D → D → Option Rs
  | .int i, .int j => some (ri (i + j))
  | .list xs, .list ys => if xs.length + ys.length ≤ sizeLine then some (.own (xs ++ ys)) else none
  | .tuple xs, .tuple ys => if xs.length + ys.length ≤ sizeLine then some (.val (.tuple (xs ++ ys))) else none
  | .str x, .str y => if x.length + y.length ≤ sizeLine then some (.val (.str (x ++ y))) else none
  | _, _ => none
def subD : D → D → Option Rs
  | .int i, .int j => some (ri (i - j))
  | _, _ => none
def mulD : D → D → Option Rs
  | .int i, .int j => if CMulW i j then some (ri (i * j)) else none
  | .list xs, .int k => if -(2 ^ 63) ≤ k ∧ k < 2 ^ 63 ∧ xs.length * k.toNat ≤ sizeLine then some (.own (List.replicate k.toNat xs).flatten) else none
  | _, _ => none
def fdivD : D → D → Option Rs
  | .int i, .int j => if CDivW i j then some (ri (i / j)) else none
  | _, _ => none
def modD : D → D → Option Rs
  | .int i, .int j => if 0 < j then some (ri (i % j)) else none
  | _, _ => none
def powD : D → D → Option Rs
  | .int i, .int j => if CPow i j then some (ri (i ^ j.toNat)) else none
  | _, _ => none
section
variable {X : Cx} {k : Nat}
theorem len_rep {α : Type} (xs : List α) : ∀ n, (List.replicate n xs).flatten.length = n * xs.length
  | 0 => by simp
  | n + 1 => by rw [List.replicate_succ, List.flatten_cons, List.length_append, len_rep xs n, Nat.succ_mul]; omega
theorem od_add : OpD X (binaryOp .Add) addD := by
  intro pins s σ H x y v u Q I rx ry ⟨F, d, e, r, ⟨hz0, hF⟩, hd, he, hg, q⟩
  unfold addD at hg
  split at hg
  · cases hg
    exact op_add pins s σ H x y v u Q I rx ry ⟨_, _, hd.int, he.int, q.ri_⟩
  · obtain ⟨hz, rfl⟩ := some_ite hg
    obtain ⟨a, vs, rfl, ha, ra⟩ := hd.list hF
    obtain ⟨b, us, rfl, hb, rb⟩ := he.list hF
    exact op_cat pins s σ H _ _ v u Q I rx ry ⟨a, b, vs, us, rfl, rfl, ha, hb, by rw [ra.len, rb.len]; exact hz, fun p hp => q _ p (ra.append rb) (by rw [List.length_append, ra.len, rb.len]; exact hz) hp⟩
  · obtain ⟨hz, rfl⟩ := some_ite hg
    obtain ⟨a, vs, rfl, ha, ra⟩ := hd.tuple hF
    obtain ⟨b, us, rfl, hb, rb⟩ := he.tuple hF
    rename_i xs ys
    refine op_catC pins s σ H _ _ v u Q I rx ry ⟨a, b, vs, us, rfl, rfl, ha, hb, by rw [ra.len, rb.len]; exact hz, fun e => ?_, fun _ e => ?_, q.2.1 _ _ rfl (ra.append rb) (by rw [List.length_append, ra.len, rb.len]; exact hz)⟩
    · subst e
      have : xs = [] := List.length_eq_zero_iff.mp (by have := ra.len; simpa using this.symm)
      subst this
      rcases he with he | ⟨_, _, _, h, _⟩
      · exact q.1 _ he
      · cases h
    · subst e
      have : ys = [] := List.length_eq_zero_iff.mp (by have := rb.len; simpa using this.symm)
      subst this
      rcases hd with hd | ⟨_, _, _, h, _⟩
      · exact q.1 _ (by simpa using hd)
      · cases h
  · obtain ⟨hz, rfl⟩ := some_ite hg
    exact op_add_str pins s σ H x y v u Q I rx ry ⟨_, _, hd.str, he.str, hz, q.str_⟩
  · cases hg
theorem od_mul : OpD X (binaryOp .Mult) mulD := by
  intro pins s σ H x y v u Q I rx ry ⟨F, d, e, r, ⟨hz0, hF⟩, hd, he, hg, q⟩
  unfold mulD at hg
  split at hg
  · obtain ⟨hz, rfl⟩ := some_ite hg
    exact op_mulW pins s σ H x y v u Q I rx ry ⟨_, _, hd.int, he.int, hz, q.ri_⟩
  · obtain ⟨⟨h1, h2, h3⟩, rfl⟩ := some_ite hg
    obtain ⟨a, vs, rfl, ha, ra⟩ := hd.list hF
    exact op_rep pins s σ H _ y v u Q I rx ry ⟨a, _, vs, rfl, he.int, ha, h1, h2, by rw [ra.len]; exact h3, fun p hp => q _ p (ra.rep _) (by rw [len_rep, ra.len, Nat.mul_comm]; exact h3) hp⟩
  · cases hg
theorem od_fdiv : OpD X (binaryOp .FloorDiv) fdivD := by
  intro pins s σ H x y v u Q I rx ry ⟨F, d, e, r, ⟨hz0, hF⟩, hd, he, hg, q⟩
  unfold fdivD at hg
  split at hg
  · obtain ⟨hz, rfl⟩ := some_ite hg
    exact op_fdivW pins s σ H x y v u Q I rx ry ⟨_, _, hd.int, he.int, hz, q.ri_⟩
  · cases hg
theorem od_mod : OpD X (binaryOp .Mod) modD := by
  intro pins s σ H x y v u Q I rx ry ⟨F, d, e, r, ⟨hz0, hF⟩, hd, he, hg, q⟩
  unfold modD at hg
  split at hg
  · obtain ⟨hz, rfl⟩ := some_ite hg
    exact op_mod pins s σ H x y v u Q I rx ry ⟨_, _, hd.int, he.int, hz, q.ri_⟩
  · cases hg
theorem od_pow : OpD X (binaryOp .Pow) powD := by
  intro pins s σ H x y v u Q I rx ry ⟨F, d, e, r, ⟨hz0, hF⟩, hd, he, hg, q⟩
  unfold powD at hg
  split at hg
  · obtain ⟨hz, rfl⟩ := some_ite hg
    exact op_pow pins s σ H x y v u Q I rx ry ⟨_, _, hd.int, he.int, hz, q.ri_⟩
  · cases hg
def negD : D → Option Rs
  | .int i => some (ri (-i))
  | _ => none
theorem ud_neg : UnR X (unaryOp .USub) (UnD X.K negD) := by
  intro pins s σ H x v Q I rx ⟨F, d, r, ⟨hz0, hF⟩, hd, hg, q⟩
  unfold negD at hg
  split at hg
  · cases hg
    exact un_neg pins s σ H x v Q I rx ⟨_, hd.int, q.ri_⟩
  · cases hg
def cmpI (p : Int → Int → Bool) : D → D → Option Rs
  | .int i, .int j => some (bl (p i j))
  | _, _ => none
def ltD : D → D → Option Rs := cmpI fun i j => decide (i < j)
def leD : D → D → Option Rs := cmpI fun i j => decide (i ≤ j)
def gtD : D → D → Option Rs := cmpI fun i j => decide (j < i)
def geD : D → D → Option Rs := cmpI fun i j => decide (j ≤ i)
theorem od_lt : OpD X (compareOp .Lt) ltD := by
  intro pins s σ H x y v u Q I rx ry ⟨F, d, e, r, ⟨hz0, hF⟩, hd, he, hg, q⟩
  unfold ltD cmpI at hg
  split at hg
  · cases hg
    exact op_lt pins s σ H x y v u Q I rx ry ⟨_, _, hd.int, he.int, q.bl_⟩
  · cases hg
theorem od_gt : OpD X (compareOp .Gt) gtD := by
  intro pins s σ H x y v u Q I rx ry ⟨F, d, e, r, ⟨hz0, hF⟩, hd, he, hg, q⟩
  unfold gtD cmpI at hg
  split at hg
  · cases hg
    exact op_gt pins s σ H x y v u Q I rx ry ⟨_, _, hd.int, he.int, q.bl_⟩
  · cases hg
theorem od_ge : OpD X (compareOp .GtE) geD := by
  intro pins s σ H x y v u Q I rx ry ⟨F, d, e, r, ⟨hz0, hF⟩, hd, he, hg, q⟩
  unfold geD cmpI at hg
  split at hg
  · cases hg
    exact op_ge pins s σ H x y v u Q I rx ry ⟨_, _, hd.int, he.int, q.bl_⟩
  · cases hg
mutual
theorem DR.dp {K : Fg} {F H : Hp} (e : Le F H) : ∀ (d : D) (v : V), d.canLay0 = true → DR K F d v → Dp K H v d
  | .none, v, _, h => by rw [DR.non_.mp h]; exact .non
  | .bool b, v, _, h => by rw [DR.bl_.mp h]; exact .bl b
  | .int i, v, _, h => by rw [DR.int_.mp h]; exact .int i
  | .str x, v, _, h => by rw [DR.str_.mp h]; exact .str x
  | .list ds, v, c, h => by
    obtain ⟨a, vs, rfl, h2, h3⟩ := DR.list_.mp h
    exact .lst (.inl (.inl (e _ _ h2))) (DRs.dp e ds vs (by simpa [PyData.canLay0] using c) h3)
  | .tuple ds, v, c, h => by
    obtain ⟨a, vs, rfl, h2, h3⟩ := DR.tuple_s h
    exact .tup (e.t h2) (DRs.dp e ds vs (by simpa [PyData.canLay0] using c) h3)
  | .dict kvs, v, c, h => by simp [PyData.canLay0] at c
theorem DRs.dp {K : Fg} {F H : Hp} (e : Le F H) : ∀ (ds : List D) (vs : List V), PyData.canLayAll0 ds = true → DRs K F ds vs → DpAll K H vs ds
  | [], vs, _, h => by rw [DRs.nil_.mp h]; exact .nil
  | d :: ds, vs, c, h => by
    obtain ⟨v, r, rfl, h2, h3⟩ := DRs.cons_.mp h
    simp only [PyData.canLayAll0, Bool.and_eq_true] at c
    exact .cons (DR.dp e d v c.1 h2) (DRs.dp e ds r c.2 h3)
end
theorem RdD.dp {K : Fg} {F H : Hp} {d : D} {v : V} (h : RdD K H F d v) (e : Le F H) (c : SeqAt.shaped d = true) : Dp K H v d := by
  have c1 := SeqAt.canLay_of_shaped c
  rcases h with h | ⟨ds, a, vs, rfl, rfl, h1, h2⟩
  · exact h.dp e d v c1
  · exact .lst (.inl (.inl h1)) (h2.dp e ds vs (by simpa [PyData.canLay0] using c1))
def isS : D → Bool
  | .str _ => true
  | _ => false
theorem isS_str {d : D} (h : isS d = true) : ∃ x, d = .str x := by cases d <;> first | exact ⟨_, rfl⟩ | cases h
def nilE : D → D → Bool
  | .list _, .list [] => true
  | .tuple _, .tuple [] => true
  | _, _ => false
def eqOk (d e : D) : Bool := ((isS d && isS e) || (SeqAt.shaped d && SeqAt.shaped e)) || nilE d e
theorem nilE_elim {K : Fg} {F H : Hp} {d e : D} {v u : V} (c : nilE d e = true) (hd : RdD K H F d v) (he : RdD K H F e u) (hF : Le F H) : (∃ ds a b vs, d = .list ds ∧ e = .list [] ∧ v = .ref a ∧ u = .ref b ∧ SqL K H a vs ∧ SqL K H b [] ∧ vs.length = ds.length) ∨ (∃ ds a b vs, d = .tuple ds ∧ e = .tuple [] ∧ v = .ref a ∧ u = .ref b ∧ SqT K H a vs ∧ SqT K H b [] ∧ vs.length = ds.length) := by
  unfold nilE at c
  split at c
  · obtain ⟨a, vs, rfl, h1, h2⟩ := hd.list hF
    obtain ⟨b, us, rfl, g1, g2⟩ := he.list hF
    rw [DRs.nil_.mp g2] at g1
    exact .inl ⟨_, a, b, vs, rfl, rfl, rfl, rfl, .inl (.inl h1), .inl (.inl g1), h2.len⟩
  · obtain ⟨a, vs, rfl, h1, h2⟩ := hd.tuple hF
    obtain ⟨b, us, rfl, g1, g2⟩ := he.tuple hF
    rw [DRs.nil_.mp g2] at g1
    exact .inr ⟨_, a, b, vs, rfl, rfl, rfl, rfl, h1, g1, h2.len⟩
  · cases c
theorem eqv_lnil {xs : List D} : PyData.eqv (.list xs) (.list []) = xs.isEmpty := by cases xs <;> rfl
theorem eqv_tnil {xs : List D} : PyData.eqv (.tuple xs) (.tuple []) = xs.isEmpty := by cases xs <;> rfl
theorem isEmpty_len {α β : Type} {xs : List α} {ys : List β} (h : ys.length = xs.length) : (ys.length == 0) = xs.isEmpty := by
  rw [h]; cases xs <;> rfl
def eqD (d e : D) : Option Rs := if eqOk d e = true then some (bl (PyData.eqv d e)) else none
def neD (d e : D) : Option Rs := if eqOk d e = true then some (bl (!PyData.eqv d e)) else none
theorem eqv_str {x y : Str} : PyData.eqv (.str x) (.str y) = decide (V.str x = V.str y) := by
  rw [Bool.eq_iff_iff]
  simp [PyData.eqv]
theorem od_eq (hx : XO X k) : OpD X (compareOp .Eq) eqD := by
  intro pins s σ H x y v u Q I rx ry ⟨F, d, e, r, ⟨hz0, hF⟩, hd, he, hg, q⟩
  obtain ⟨c, rfl⟩ := some_ite hg
  by_cases hs : (isS d && isS e) = true
  · rw [Bool.and_eq_true] at hs
    obtain ⟨a, rfl⟩ := isS_str hs.1
    obtain ⟨b, rfl⟩ := isS_str hs.2
    have hx := hd.str
    have hy := he.str
    subst hx hy
    exact op_eq pins s σ H _ _ v u Q I rx ry ⟨rfl, by rw [← eqv_str]; exact q.bl_⟩
  · by_cases hc : (SeqAt.shaped d && SeqAt.shaped e) = true
    · rw [Bool.and_eq_true] at hc
      exact op_eqD hx.room.units pins s σ H x y v u Q I rx ry ⟨d, e, hd.dp hF hc.1, he.dp hF hc.2, hc.1, hc.2, q.bl_⟩
    · have c : nilE d e = true := by
        unfold eqOk at c
        rw [Bool.or_eq_true, Bool.or_eq_true] at c
        rcases c with (c | c) | c
        · exact absurd c hs
        · exact absurd c hc
        · exact c
      rcases nilE_elim c hd he hF with ⟨ds, a, b, vs, rfl, rfl, rfl, rfl, h1, h2, hl⟩ | ⟨ds, a, b, vs, rfl, rfl, rfl, rfl, h1, h2, hl⟩
      · cases rx
        cases ry
        obtain ⟨its, r1, ⟨o1, n1, p1, p2, _, p3⟩, _⟩ := I.list h1
        obtain ⟨us, r2, ⟨o2, n2, p4, p5, _, p6⟩, _⟩ := I.list h2
        cases r2
        have hne : ds ≠ [] := fun z => hc (by subst z; rfl)
        have hn : (its.toArray.size != ([] : List Value).toArray.size) = true := by
          have := r1.length
          have h0 : ds.length ≠ 0 := fun z => hne (List.length_eq_zero_iff.mp z)
          simp
          intro z
          rw [z, hl] at this
          exact h0 this
        have hv : false = PyData.eqv (.list ds) (.list []) := by
          rw [eqv_lnil]
          cases ds with
          | nil => exact absurd rfl hne
          | cons _ _ => rfl
        exact SeqAt.RcAt.lists_lengths ⟨o1, p1, p2, n1, p3⟩ ⟨o2, p4, p5, n2, p6⟩ hn (Nat.lt_of_le_of_lt (Nat.le_add_right _ 64) hx.room.units) _ _ _ _ ⟨.bl _, H, I, rfl, by rw [hv]; exact q.bl_⟩
      · cases rx
        cases ry
        obtain ⟨its, r1, l1, _⟩ := I.tuple h1
        obtain ⟨us, r2, l2, _⟩ := I.tuple h2
        cases r2
        have e1 : (((List.range (min its.toArray.size ([] : List Value).toArray.size)).all fun _ => true) && its.toArray.size == ([] : List Value).toArray.size) = PyData.eqv (.tuple ds) (.tuple []) := by
          rw [eqv_tnil, ← isEmpty_len hl, r1.length]
          simp
        have := SeqAt.RcAt.tuples (A := X.A) (e := fun _ => true) l1 l2 (Nat.lt_of_le_of_lt (Nat.le_add_right _ 64) hx.room.units) (fun j h1 h2 => absurd h2 (by simp)) X.prog X.w
        exact this _ _ ⟨.bl _, H, I, rfl, by rw [e1]; exact q.bl_⟩
theorem od_ne (hx : XO X k) : OpD X (compareOp .NotEq) neD := by
  intro pins s σ H x y v u Q I rx ry ⟨F, d, e, r, ⟨hz0, hF⟩, hd, he, hg, q⟩
  obtain ⟨c, rfl⟩ := some_ite hg
  by_cases hs : (isS d && isS e) = true
  · rw [Bool.and_eq_true] at hs
    obtain ⟨a, rfl⟩ := isS_str hs.1
    obtain ⟨b, rfl⟩ := isS_str hs.2
    have hx := hd.str
    have hy := he.str
    subst hx hy
    exact op_ne pins s σ H _ _ v u Q I rx ry ⟨rfl, by rw [← eqv_str]; exact q.bl_⟩
  · by_cases hc : (SeqAt.shaped d && SeqAt.shaped e) = true
    · rw [Bool.and_eq_true] at hc
      exact op_neD hx.room.units pins s σ H x y v u Q I rx ry ⟨d, e, hd.dp hF hc.1, he.dp hF hc.2, hc.1, hc.2, q.bl_⟩
    · have c : nilE d e = true := by
        unfold eqOk at c
        rw [Bool.or_eq_true, Bool.or_eq_true] at c
        rcases c with (c | c) | c
        · exact absurd c hs
        · exact absurd c hc
        · exact c
      rcases nilE_elim c hd he hF with ⟨ds, a, b, vs, rfl, rfl, rfl, rfl, h1, h2, hl⟩ | ⟨ds, a, b, vs, rfl, rfl, rfl, rfl, h1, h2, hl⟩
      · cases rx
        cases ry
        obtain ⟨its, r1, ⟨o1, n1, p1, p2, _, p3⟩, _⟩ := I.list h1
        obtain ⟨us, r2, ⟨o2, n2, p4, p5, _, p6⟩, _⟩ := I.list h2
        cases r2
        have hne : ds ≠ [] := fun z => hc (by subst z; rfl)
        have hn : (its.toArray.size != ([] : List Value).toArray.size) = true := by
          have := r1.length
          have h0 : ds.length ≠ 0 := fun z => hne (List.length_eq_zero_iff.mp z)
          simp
          intro z
          rw [z, hl] at this
          exact h0 this
        have hv : true = !PyData.eqv (.list ds) (.list []) := by
          rw [eqv_lnil]
          cases ds with
          | nil => exact absurd rfl hne
          | cons _ _ => rfl
        exact SeqAt.RcNeAt.lists_lengths ⟨o1, p1, p2, n1, p3⟩ ⟨o2, p4, p5, n2, p6⟩ hn (Nat.lt_of_le_of_lt (Nat.le_add_right _ 64) hx.room.units) _ _ _ _ ⟨.bl _, H, I, rfl, by rw [hv]; exact q.bl_⟩
      · cases rx
        cases ry
        obtain ⟨its, r1, l1, _⟩ := I.tuple h1
        obtain ⟨us, r2, l2, _⟩ := I.tuple h2
        cases r2
        have e1 : (((List.range (min its.toArray.size ([] : List Value).toArray.size)).all fun _ => true) && its.toArray.size == ([] : List Value).toArray.size) = PyData.eqv (.tuple ds) (.tuple []) := by
          rw [eqv_tnil, ← isEmpty_len hl, r1.length]
          simp
        have := SeqAt.RcNeAt.tuples (A := X.A) (e := fun _ => true) l1 l2 (Nat.lt_of_le_of_lt (Nat.le_add_right _ 64) hx.room.units) (fun j h1 h2 => absurd h2 (by simp)) X.prog X.w
        exact this _ _ ⟨.bl _, H, I, rfl, by rw [e1]; exact q.bl_⟩
end
end Dk
namespace Dk
open PySem PySem.Spec PyProof.Rows L2
variable {S : Type} [StK S]
section
variable {X : Cx} {k : Nat}
def isNone : D → Bool
  | .none => true
  | _ => false
theorem RdD.isNone {K : Fg} {F H : Hp} {d : D} {v : V} (h : RdD K H F d v) (e : Le F H) : decide (v = .non) = Dk.isNone d := by
  cases d with
  | none => rw [h.none_]; rfl
  | bool b => rw [h.bool]; rfl
  | int i => rw [h.int]; rfl
  | str x => rw [h.str]; rfl
  | list ds => obtain ⟨a, vs, rfl, _⟩ := h.list e; rfl
  | tuple ds => obtain ⟨a, vs, rfl, _⟩ := h.tuple e; rfl
  | dict ds => obtain ⟨a, rfl⟩ := h.dictC; rfl
def isD (neg : Bool) (d : D) : D → Option Rs
  | .none => some (bl (if neg then !isNone d else isNone d))
  | _ => none
def ixD : D → D → Option Rs
  | .list ds, .int i => (atI ds i).map .val
  | .tuple ds, .int i => (atI ds i).map .val
  | _, _ => none
theorem DRs.atI {K : Fg} {F : Hp} {ds : List D} {vs : List V} {i : Int} {d : D} (h : DRs K F ds vs) (e : L2.atI ds i = some d) : ∃ v, L2.atI vs i = some v ∧ DR K F d v := by
  unfold L2.atI at e ⊢
  rw [h.len]
  obtain ⟨j, e1, e2⟩ := Option.bind_eq_some_iff.mp e
  obtain ⟨v, e3, e4⟩ := h.get e2
  exact ⟨v, by rw [e1]; exact e3, e4⟩
theorem ix_d : IxR X fun x y H Q => ∃ F d e r, (Szs H ∧ Le F H) ∧ RdD X.K H F d x ∧ RdD X.K H F e y ∧ ixD d e = some r ∧ Gives X.K F H r Q := by
  intro value slice pins s σ H x y v u Q I rx ry ⟨F, d, e, r, ⟨hz0, hF⟩, hd, he, hg, q⟩ hsub
  unfold ixD at hg
  split at hg
  · obtain ⟨z, e1, rfl⟩ := Option.map_eq_some_iff.mp hg
    obtain ⟨a, vs, rfl, ha, ra⟩ := hd.list hF
    obtain ⟨w, e2, e3⟩ := ra.atI e1
    exact ix_list value slice pins s σ H _ y v u Q I rx ry ⟨a, vs, _, w, rfl, he.int, .inl (.inl ha), e2, q.1 _ e3⟩ hsub
  · obtain ⟨z, e1, rfl⟩ := Option.map_eq_some_iff.mp hg
    obtain ⟨a, vs, rfl, ha, ra⟩ := hd.tuple hF
    obtain ⟨w, e2, e3⟩ := ra.atI e1
    exact ix_tup value slice pins s σ H _ y v u Q I rx ry ⟨a, vs, _, w, rfl, he.int, ha, e2, q.1 _ e3⟩ hsub
  · cases hg
variable {e a b : Expr} {es : List Expr} {pos : Pos} {t ta tb : (OW S)}
theorem ce_sub (ha : CO (S := S) X a ta) (hb : CO (S := S) X b tb) (hs : PlainIx b := by exact fun _ _ => rfl) : CE (S := S) X (.Subscript a b pos) (dBin ixD ta tb) := ce_ix ix_d ha hb hs
def cutD (ds : List D) (lo hi : Option Int) : List D := (ds.drop (HT.sIx ds.length 0 lo)).take (HT.sIx ds.length ds.length hi - HT.sIx ds.length 0 lo)
theorem DRs.cut {K : Fg} {F : Hp} {ds : List D} {vs : List V} (h : DRs K F ds vs) (lo hi : Option Int) : DRs K F (cutD ds lo hi) (cutV vs lo hi) := by
  unfold cutD cutV
  rw [h.len]
  exact (h.drop _).take _
def slD (d : D) (lo hi : Option Int) : Option Rs := match d with
  | .list ds => some (.own (cutD ds lo hi))
  | .tuple ds => some (.val (.tuple (cutD ds lo hi)))
  | _ => none
abbrev PW_ (S : Type := Option Pen) := (En S) → (Option Int → (En S) → Prop) → Prop
def liftP (K : Fg) (t : (PW_ S)) : L2.TO := fun σ H Q => ∃ B pa τ F ρ θ P, Rel K B pa (σ ++ τ) H F (ρ.sl ++ θ) ρ.pn ∧ ρ.sl.length = σ.length ∧ t ρ P ∧
  ∀ o ρ' H' F', P o ρ' → ρ'.sl.length = σ.length → Rel K B pa (σ ++ τ) H' F' (ρ'.sl ++ θ) ρ'.pn → Q o H'
abbrev CP (X : Cx) (e : Option Expr) (t : (PW_ S)) : Prop := PO X e (liftP X.K t)
def pNone : (PW_ S) := fun ρ P => P none ρ
def D.int? : D → Option Int
  | .int i => some i
  | _ => none
@[simp] theorem D.int?_int (i : Int) : D.int? (.int i) = some i := rfl
theorem D.int?_some {d : D} {i : Int} (h : D.int? d = some i) : d = .int i := by cases d <;> cases h <;> rfl
def pSome (t : (OW S)) : (PW_ S) := fun ρ P => t ρ fun k ρ1 => gets ((k.rd ρ1).bind D.int?) fun i => P (some i) ρ1
theorem po_mono {o : Option Expr} {t u : L2.TO} (h : PO X o t) (m : ∀ σ H Q, u σ H Q → t σ H Q) : PO X o u := ⟨fun pins s σ H Q I q => h.run pins s σ H Q I (m σ H Q q)⟩
theorem cp_none : CP (S := S) X none pNone := po_mono po_none fun σ H Q ⟨B, pa, τ, F, ρ, θ, P, R, hl, h, q⟩ => q none ρ H F h hl R
theorem cp_some (h : CO (S := S) X e t) : CP (S := S) X (some e) (pSome t) := po_mono (po_some h) fun σ H Q ⟨B, pa, τ, F, ρ, θ, P, R, hl, h, q⟩ => by
  refine ⟨B, pa, τ, F, ρ, θ, _, R, hl, h, fun k ρ' v H' F' hp hl' R' hs => ?_⟩
  obtain ⟨i, e, hp⟩ := gets_elim hp
  obtain ⟨d, e1, e2⟩ := Option.bind_eq_some_iff.mp e
  have e3 := D.int?_some e2
  subst e3
  have hτ : τ.length = θ.length := by have := R'.pop.len; simp at this; omega
  have rd := read_at (τ := τ ++ [some v]) (θ := θ ++ [k.sl]) (by rw [← List.append_assoc, ← List.append_assoc]; exact R') hl' τ.length (app_last _ _) (getN hτ.symm) hs e1
  exact ⟨i, rd.int, q (some i) ρ' H' F' hp hl' R'.pop⟩
def dSl (t : (OW S)) (lo hi : (PW_ S)) : (DW S) := fun ρ P => t ρ fun k ρ1 => lo ρ1 fun l ρ2 => hi ρ2 fun h ρ3 => gets (k.rd ρ3) fun d => gets (slD d l h) fun r => P r ρ3
end
end Dk
namespace Dk
open PySem PySem.Spec PyProof.Rows L2
variable {S : Type} [StK S]
theorem b_len : bootBuiltins "len" = some (.builtin "len") := by decide +kernel
theorem b_list : bootBuiltins "list" = some (.type "list") := by decide +kernel
theorem b_int : bootBuiltins "int" = some (.type "int") := by decide +kernel
theorem b_isinstance : bootBuiltins "isinstance" = some (.builtin "isinstance") := by decide +kernel
theorem b_repr : bootBuiltins "repr" = some (.builtin "repr") := by decide +kernel
def ints? : List D → Option (List Int)
  | [] => some []
  | .int i :: r => (ints? r).map (i :: ·)
  | _ :: _ => none
@[simp] theorem ints?_map : ∀ ns : List Int, ints? (ns.map .int) = some ns
  | [] => rfl
  | n :: ns => by
    show (ints? (ns.map .int)).map (n :: ·) = _
    rw [ints?_map ns]
    rfl
def bls? : List D → Option (List Bool)
  | [] => some []
  | .bool i :: r => (bls? r).map (i :: ·)
  | _ :: _ => none
@[simp] theorem bls?_map : ∀ ns : List Bool, bls? (ns.map .bool) = some ns
  | [] => rfl
  | n :: ns => by
    show (bls? (ns.map .bool)).map (n :: ·) = _
    rw [bls?_map ns]
    rfl
section
variable {X : Cx} {k : Nat}
def lenD : List D → Option Rs
  | [.list ds] => some (ri ds.length)
  | [.tuple ds] => some (ri ds.length)
  | [.str x] => if x.length ≤ sizeLine then some (ri x.length) else none
  | _ => none
theorem cd_len : CallD X (.builtin "len") lenD := by
  intro pins s σ H xs us Q I rv ⟨F, ds, r, ⟨hz0, hF⟩, hd, hg, q⟩
  unfold lenD at hg
  split at hg
  · cases hg
    obtain ⟨v, rfl, h⟩ := hd.one
    obtain ⟨a, vs, rfl, ha, ra⟩ := h.list hF
    exact call_len pins s σ H _ us Q I rv ⟨_, vs.length, rfl, .inl ⟨vs, .inl (.inl ha), rfl⟩, by rw [ra.len]; exact q.ri_⟩
  · cases hg
    obtain ⟨v, rfl, h⟩ := hd.one
    obtain ⟨a, vs, rfl, ha, ra⟩ := h.tuple hF
    exact call_len pins s σ H _ us Q I rv ⟨_, vs.length, rfl, .inr ⟨vs, ha, rfl⟩, by rw [ra.len]; exact q.ri_⟩
  · obtain ⟨hz, rfl⟩ := some_ite hg
    obtain ⟨v, rfl, h⟩ := hd.one
    exact call_len pins s σ H _ us Q I rv ⟨v, _, rfl, (by rw [h.str]; exact ⟨hz, rfl⟩ : LenV X.K v H _), q.ri_⟩
  · cases hg
def listD : List D → Option Rs
  | [.list ds] => some (.own ds)
  | [.tuple ds] => some (.own ds)
  | _ => none
theorem cd_list : CallD X (.type "list") listD := by
  intro pins s σ H xs us Q I rv ⟨F, ds, r, ⟨hz0, hF⟩, hd, hg, q⟩
  unfold listD at hg
  split at hg
  · cases hg
    obtain ⟨v, rfl, h⟩ := hd.one
    obtain ⟨a, vs, rfl, ha, ra⟩ := h.list hF
    exact call_list_of pins s σ H _ us Q I rv ⟨a, vs, rfl, .inl (.inl (.inl ha)), fun l hl => q _ l ra (hz0.l ha) hl⟩
  · cases hg
    obtain ⟨v, rfl, h⟩ := hd.one
    obtain ⟨a, vs, rfl, ha, ra⟩ := h.tuple hF
    exact call_list_of pins s σ H _ us Q I rv ⟨a, vs, rfl, .inr ha, fun l hl => q _ l ra (hz0.t ha) hl⟩
  · cases hg
def tupleD : List D → Option Rs
  | [.list ds] => some (.val (.tuple ds))
  | [.tuple ds] => some (.val (.tuple ds))
  | _ => none
def sumD : List D → Option Rs
  | [.list ds] => (ints? ds).map fun ns => ri ns.sum
  | [.tuple ds] => (ints? ds).map fun ns => ri ns.sum
  | _ => none
def maxI : List Int → Option Int
  | [] => none
  | n :: ns => some (ns.foldl max n)
def minI : List Int → Option Int
  | [] => none
  | n :: ns => some (ns.foldl min n)
def maxD : List D → Option Rs
  | [.list ds] => (ints? ds).bind fun ns => (maxI ns).map ri
  | [.int i, .int j] => some (ri (max i j))
  | _ => none
def minD : List D → Option Rs
  | [.list ds] => (ints? ds).bind fun ns => (minI ns).map ri
  | [.int i, .int j] => some (ri (min i j))
  | _ => none
def allD : List D → Option Rs
  | [.list ds] => (bls? ds).map fun bs => bl (bs.all id)
  | _ => none
def intD : List D → Option Rs
  | [.int i] => some (ri i)
  | [.bool b] => some (ri (if b then 1 else 0))
  | _ => none
theorem cd_int : CallD X (.type "int") intD := by
  intro pins s σ H xs us Q I rv ⟨F, ds, r, ⟨hz0, hF⟩, hd, hg, q⟩
  unfold intD at hg
  split at hg
  · cases hg
    obtain ⟨v, rfl, h⟩ := hd.one
    exact call_int1 pins s σ H _ us Q I rv (.inl ⟨_, by rw [h.int], q.ri_⟩)
  · cases hg
    obtain ⟨v, rfl, h⟩ := hd.one
    exact call_int1 pins s σ H _ us Q I rv (.inr ⟨_, by rw [h.bool], q.ri_⟩)
  · cases hg
def absD : List D → Option Rs
  | [.int i] => some (ri (if i < 0 then -i else i))
  | _ => none
end
end Dk
namespace Dk
open PySem PySem.Spec PyProof.Rows L2
variable {S : Type} [StK S]
def tyName : D → String
  | .none => "NoneType"
  | .bool _ => "bool"
  | .int _ => "int"
  | .str _ => "str"
  | .list _ => "list"
  | .tuple _ => "tuple"
  | .dict _ => "dict"
inductive Ty where
  | int | bool | str | tuple | list | dict
def Ty.nm : Ty → String
  | .int => "int"
  | .bool => "bool"
  | .str => "str"
  | .tuple => "tuple"
  | .list => "list"
  | .dict => "dict"
def isi : Ty → D → Bool
  | .int, .int _ => true
  | .int, .bool _ => true
  | .bool, .bool _ => true
  | .str, .str _ => true
  | .tuple, .tuple _ => true
  | .list, .list _ => true
  | .dict, .dict _ => true
  | _, _ => false
theorem RdD.ty {K : Fg} {F H : Hp} {d : D} {v : V} (h : RdD K H F d v) (e : Le F H) (hp : ptop d = true) : TyX K H v (.type (tyName d)) := by
  cases d with
  | none => rw [h.none_]; exact .base .non
  | bool b => rw [h.bool]; exact .base (.bl b)
  | int i => rw [h.int]; exact .base (.int i)
  | str x => rw [h.str]; exact .base (.str x)
  | list ds => obtain ⟨a, vs, rfl, h1, _⟩ := h.list e; exact .base (.lst h1)
  | tuple ds =>
    obtain ⟨a, vs, rfl, h1, _⟩ := h.tuple e
    rcases h1 with (h1 | ⟨o, h1⟩) | ⟨o, its, n, h1, h2, _⟩
    · exact .base (.tup h1)
    · exact .fTuple h1
    · exact .kTuple h1 h2
  | dict ds =>
    cases ds with
    | cons _ _ => cases hp
    | nil => obtain ⟨a, rfl, h1⟩ := h.dict e; exact .base (.dK h1)
section
variable {X : Cx} {k : Nat} {e a : Expr} {pos p p2 p3 p4 : Pos} {t : (OW S)}
def dIsi (T : Ty) (t : (OW S)) : (DW S) := dUn (fun d => if ptop d = true then some (bl (isi T d)) else none) t
def dIsi2 (T U : Ty) (t : (OW S)) : (DW S) := dUn (fun d => if ptop d = true then some (bl (isi T d || isi U d)) else none) t
end
mutual
def noList : D → Bool
  | .list _ => false
  | .tuple ds => noLists ds
  | _ => true
def noLists : List D → Bool
  | [] => true
  | d :: ds => noList d && noLists ds
end
section
variable {X : Cx} {k : Nat} {pins : List (Addr × Obj)} {σ : L2.St} {H F : Hp} {s : Shared}
mutual
theorem DR.reads (I : L2.Inv X pins σ H s) (e : Le F H) : ∀ (d : D) (v : V) (u : Value), rdb d = true → DR X.K F d v → RelV v u → ∃ as, Reads s.heap u d as ∧ (noList d = true → sysModules ∉ as)
  | .none, v, u, hrd, h, r => by
    rw [DR.non_.mp h] at r; cases r
    exact ⟨_, Reads.none, fun _ => by simp⟩
  | .bool b, v, u, hrd, h, r => by
    rw [DR.bl_.mp h] at r; cases r
    exact ⟨_, Reads.bool b, fun _ => by simp⟩
  | .int i, v, u, hrd, h, r => by
    rw [DR.int_.mp h] at r; obtain ⟨t, rfl⟩ := r
    exact ⟨_, Reads.int i t, fun _ => by simp⟩
  | .str x, v, u, hrd, h, r => by
    rw [DR.str_.mp h] at r; obtain ⟨t, rfl⟩ := r
    exact ⟨_, Reads.str x t, fun _ => by simp⟩
  | .list ds, v, u, hrd, h, r => by
    rw [rdb] at hrd
    obtain ⟨a, vs, rfl, h1, h2⟩ := DR.list_.mp h
    cases r
    obtain ⟨its, rv, ⟨o, n, ho, hc, _, hd⟩, _⟩ := I.list (.inl (.inl (e _ _ h1)))
    obtain ⟨as, hr, _⟩ := DRs.reads I e ds vs its hrd h2 rv
    exact ⟨_, Reads.list ho hc hd hr, fun z => by simp [noList] at z⟩
  | .tuple ds, v, u, hrd, h, r => by
    rw [rdb] at hrd
    obtain ⟨a, vs, rfl, h1, h2⟩ := DR.tuple_s h
    cases r
    obtain ⟨its, rv, ⟨o, ho, hc, n, hd⟩, _⟩ := I.tuple (e.t h1)
    obtain ⟨as, hr, hs⟩ := DRs.reads I e ds vs its hrd h2 rv
    exact ⟨_, Reads.tuple ho hc hd hr, fun z => hs (by simpa [noList] using z)⟩
  | .dict (_ :: _), v, u, hrd, h, r => by cases hrd
  | .dict [], v, u, hrd, h, r => by
    obtain ⟨a, rfl, h1⟩ := DR.dict_.mp h
    cases r
    obtain ⟨_, hne, vs, kv, o, es, ep, ho, hx, hd, _, hp, _⟩ := I.hok a _ (e _ _ h1)
    cases kv
    have : es.toList = [] := by
      have := hp.length
      simpa using this
    exact ⟨[a], Reads.dict (as := []) (bs := []) ho hx.1 hd (by rw [this]; exact .nil) (by rw [this]; exact .nil), fun _ hm => by
      have e2 : sysModules = a := by simpa using hm
      rw [← e2] at hne
      exact absurd hne (by decide)⟩
theorem DRs.reads (I : L2.Inv X pins σ H s) (e : Le F H) : ∀ (ds : List D) (vs : List V) (us : List Value), rdbs ds = true → DRs X.K F ds vs → Vals vs us → ∃ as, ReadsAll s.heap us ds as ∧ (noLists ds = true → sysModules ∉ as)
  | [], vs, us, hrd, h, r => by
    rw [DRs.nil_.mp h] at r
    cases r
    exact ⟨_, ReadsAll.nil, fun _ => by simp⟩
  | d :: ds, vs, us, hrd, h, r => by
    rw [rdbs, Bool.and_eq_true] at hrd
    obtain ⟨v, vr, rfl, h2, h3⟩ := DRs.cons_.mp h
    cases r with
    | cons r1 r2 =>
      obtain ⟨as, q1, z1⟩ := DR.reads I e d _ _ hrd.1 h2 r1
      obtain ⟨bs, q2, z2⟩ := DRs.reads I e ds _ _ hrd.2 h3 r2
      refine ⟨_, ReadsAll.cons q1 q2, fun z => ?_⟩
      simp only [noLists, Bool.and_eq_true] at z
      intro hm
      rcases List.mem_append.mp hm with hm | hm
      · exact z1 z.1 hm
      · exact z2 z.2 hm
end
theorem RdD.reads {d : D} {v : V} {u : Value} (I : L2.Inv X pins σ H s) (e : Le F H) (hrd : rdb d = true) (h : RdD X.K H F d v) (r : RelV v u) : ∃ as, Reads s.heap u d as ∧ (noList d = true → sysModules ∉ as) := by
  rcases h with h | ⟨ds, a, vs, rfl, rfl, h1, h2⟩
  · exact h.reads I e d v u hrd r
  · rw [rdb] at hrd
    cases r
    obtain ⟨its, rv, ⟨o, n, ho, hc, _, hd⟩, _⟩ := I.list (.inl (.inl h1))
    obtain ⟨as, hr, _⟩ := h2.reads I e ds vs its hrd rv
    exact ⟨_, Reads.list ho hc hd hr, fun z => by simp [noList] at z⟩
end
theorem big_show : PyData.showable (.int bigM) = false := by decide +kernel
theorem errK_show {C : Addr} {f : Str} : (errK C f).showable = false := by
  unfold errK
  rw [PyData.showable, PyData.showableAll, big_show]
  rfl
mutual
theorem DR.rdb {K : Fg} {F : Hp} : ∀ (d : D) (v : V), DR K F d v → d.showable = true → Dk.rdb d = true
  | .none, _, _, _ => rfl
  | .bool _, _, _, _ => rfl
  | .int _, _, _, _ => rfl
  | .str _, _, _, _ => rfl
  | .list ds, v, h, hs => by
    obtain ⟨a, vs, _, _, h2⟩ := DR.list_.mp h
    rw [Dk.rdb]
    exact DRs.rdb ds vs h2 (by simpa [PyData.showable] using hs)
  | .tuple ds, v, h, hs => by
    obtain ⟨a, vs, _, _, h2⟩ := DR.tupC_.mp h
    rw [Dk.rdb]
    exact DRs.rdb ds vs h2 (by simpa [PyData.showable] using hs)
  | .dict [], _, _, _ => rfl
  | .dict ((k, x) :: r), v, h, hs => by
    obtain ⟨a, _, h2⟩ := DR.dictC_.mp h
    rw [PyData.showable, PyData.showableKv, Bool.and_eq_true, Bool.and_eq_true] at hs
    unfold DRd DRp at h2
    rcases h2.2 with ⟨e, _⟩ | ⟨C, f, _, _, e, _⟩
    · rw [e, refK, big_show] at hs
      cases hs.1.1
    · rw [e, errK_show] at hs
      cases hs.1.1
theorem DRs.rdb {K : Fg} {F : Hp} : ∀ (ds : List D) (vs : List V), DRs K F ds vs → PyData.showableAll ds = true → rdbs ds = true
  | [], _, _, _ => rfl
  | d :: ds, vs, h, hs => by
    obtain ⟨v, r, _, h2, h3⟩ := DRs.cons_.mp h
    rw [PyData.showableAll, Bool.and_eq_true] at hs
    rw [rdbs, DR.rdb d v h2 hs.1, DRs.rdb ds r h3 hs.2]
    rfl
end
theorem RdD.rdb {K : Fg} {F H : Hp} {d : D} {v : V} (h : RdD K H F d v) (hs : d.showable = true) : Dk.rdb d = true := by
  rcases h with h | ⟨ds, a, vs, rfl, rfl, h1, h2⟩
  · exact DR.rdb d v h hs
  · rw [Dk.rdb]
    exact DRs.rdb ds vs h2 (by simpa [PyData.showable] using hs)
section
variable {X : Cx} {k : Nat} {pins : List (Addr × Obj)} {σ : L2.St} {H F : Hp} {s : Shared}
def reprOk (d : D) : Prop := d.showable = true ∧ d.shown.length ≤ sizeLine ∧ d.depth ≤ 100 ∧ (noList d = true ∨ d.hasDict = false)
instance {d : D} : Decidable (reprOk d) := by unfold reprOk; infer_instance
def reprD : List D → Option Rs
  | [d] => if reprOk d then some (.val (.str d.shown)) else none
  | _ => none
theorem cd_repr (hx : XO X k) : CallD X (.builtin "repr") reprD := by
  intro pins s σ H xs us Q I rv ⟨F, ds, r, ⟨hz0, hF⟩, hd, hg, q⟩
  unfold reprD at hg
  split at hg
  · obtain ⟨⟨c1, c2, c3, c4⟩, rfl⟩ := some_ite hg
    obtain ⟨v, rfl, h⟩ := hd.one
    obtain ⟨u, rfl, ru⟩ := vals1 rv
    rename_i d
    obtain ⟨as, hr, hs⟩ := h.reads I hF (h.rdb c1) ru
    have hsm : d.hasDict = true → sysModules ∉ as := fun z => by
      rcases c4 with c4 | c4
      · exact hs c4
      · rw [c4] at z; cases z
    have hu : X.A.units + (d.depth + 1) < cLine := by have := hx.room.un; omega
    have fin : ∀ (h' : Heap) (u : Tok) (tk : Nat), (∀ b o, s.heap.get? b = some o → h'.get? b = some o) → EP X pins σ Q (.str d.shown u) { s with heap := h', toks := tk } := fun h' u tk hk => ⟨.str d.shown, H, I.kept (t' := tk) hk, ⟨u, rfl⟩, q.str_⟩
    cases hr with
    | none => exact P.repr_of_none (by have := fin s.heap s.toks (s.toks + 1) (fun _ _ e => e); simpa [PyData.shown] using this)
    | bool b => exact P.repr_of_bool (by have := fin s.heap s.toks (s.toks + 1) (fun _ _ e => e); cases b <;> simpa [PyData.shown] using this)
    | int i t => exact P.repr_of_int (by simpa [PyData.showable] using c1) (by have := fin s.heap s.toks (s.toks + 1) (fun _ _ e => e); simpa [PyData.shown] using this)
    | str x t => exact P.repr_of_str (by have := fin s.heap s.toks (s.toks + 1) (fun _ _ e => e); simpa [PyData.shown] using this) (by simpa [PyData.shown] using c2)
    | list h1 h2 h3 h4 => exact repr_of_reads' (.list h1 h2 h3 h4) c1 hsm hx.gd hu (fun _ _ e => e) (fun h' u tk hk => fin h' u tk hk) c2
    | tuple h1 h2 h3 h4 => exact repr_of_reads' (.tuple h1 h2 h3 h4) c1 hsm hx.gd hu (fun _ _ e => e) (fun h' u tk hk => fin h' u tk hk) c2
    | dict h1 h2 h3 h4 h5 => exact repr_of_reads' (.dict h1 h2 h3 h4 h5) c1 hsm hx.gd hu (fun _ _ e => e) (fun h' u tk hk => fin h' u tk hk) c2
  · cases hg
end
end Dk
namespace Dk
open PySem PySem.Spec PyProof.Rows L2
variable {S : Type} [StK S]
def Yl (K : Fg) (F H : Hp) (d : D) (x : V) (H' : Hp) : Prop := (H' = H ∧ DR K F d x) ∨ ∃ p ds vs o, d = .tuple ds ∧ x = .ref p ∧ H p = none ∧ H' = upd H p (.frz o (.tup vs)) ∧ DRs K F ds vs ∧ vs.length ≤ sizeLine ∧ o.dict = none
structure SrcOk (K : Fg) (F0 : Hp) (J : It) (f : List D → Option (List D)) (vs : List V) : Prop where
  step : ∀ (H F : Hp) (ds items : List D) (i : Nat) (d : D), Szs H → Le F0 F → Le F H → RdDs K H F ds vs → f ds = some items → items[i]? = some d → J.go i H ∧ ∀ x H', J.yld i H x H' → Yl K F H d x H'
  stop : ∀ (H F : Hp) (ds items : List D), Szs H → Le F0 F → Le F H → RdDs K H F ds vs → f ds = some items → J.stop items.length H ∧ items.length ≤ sizeLine
structure Sc where
  ks : List Tk
  f : List D → Option (List D)
def Sc.items (c : Sc) (ρ : En S) : Option (List D) := (rds ρ c.ks).bind c.f
abbrev IW (S : Type := Option Pen) := (En S) → (Sc → (En S) → Prop) → Prop
def liftI (K : Fg) (t : (IW S)) : TI := fun σ H R => ∃ B pa τ F ρ θ P, Rel K B pa (σ ++ τ) H F (ρ.sl ++ θ) ρ.pn ∧ ρ.sl.length = σ.length ∧ t ρ P ∧
  ∀ c ρ' vs H' F' J, P c ρ' → ρ'.sl.length = σ.length → c.ks.length = vs.length → Rel K B pa (σ ++ τ ++ vs.map some) H' F' (ρ'.sl ++ θ ++ c.ks.map Tk.sl) ρ'.pn →
    (∀ (j : Nat) i v, c.ks[j]? = some (.slot i) → vs[j]? = some v → σ[i]? = some (some v)) → SrcOk K F' J c.f vs → R J H'
abbrev CI (X : Cx) (tg e : Expr) (t : (IW S)) : Prop := PI X tg e (liftI X.K t)
theorem pi_mono {X : Cx} {tg e : Expr} {t u : TI} (h : PI X tg e t) (m : ∀ σ H Q, u σ H Q → t σ H Q) : PI X tg e u := ⟨fun pins s σ H Q I q => h.run pins s σ H Q I (m σ H Q q)⟩
section
variable {X : Cx} {tg e a b : Expr} {es : List Expr} {pos p : Pos} {t u : (OW S)}
def iSeq2 (K : Fg) (tl : TE) : TI := fun σ H R => tl σ H fun x H1 => ∃ a, x = .ref a ∧ ((∃ xs, SqL K H1 a xs ∧ R (Itl K a) H1) ∨ ∃ xs, SqT K H1 a xs ∧ R (Itt K a) H1)
theorem pi_seq2 {l : Expr} {tl : TE} (hl : PE X l tl) : PI X tg l (iSeq2 X.K tl) := by
  refine ⟨fun pins s σ H R I h => ?_⟩
  refine thn (hl.run pins s σ H _ I h) fun v s1 ⟨x, H1, I1, r1, q1⟩ => ?_
  obtain ⟨a, e, ⟨xs, hq, q⟩ | ⟨xs, hq, q⟩⟩ := q1
  · subst e
    cases r1
    obtain ⟨its, rv, p, hz⟩ := I1.list hq
    refine wpAny_pyIter_list p.isList ?_
    refine ⟨s1.heap.objs.size, [s1.heap.objs.size], _, _, H1, rfl, I1.kept (t' := s1.toks) fun b o e => Heap.get?_push_of_some _ e, turn_list a _, ⟨_, Heap.get?_push_size _ rfl, rfl, rfl⟩, fun b hb => ?_, q⟩
    have e : b = s1.heap.objs.size := by simpa using hb
    subst e
    exact I1.fpOk (Nat.le_refl _) (I1.hok.fresh (Nat.le_refl _))
  · subst e
    cases r1
    obtain ⟨its, rv, p, hz⟩ := I1.tuple hq
    refine wpAny_pyIter_tuple (show s1.heap.IsTuple a its.toArray from p) ?_
    refine ⟨s1.heap.objs.size, [s1.heap.objs.size], _, _, H1, rfl, I1.kept (t' := s1.toks) fun b o e => Heap.get?_push_of_some _ e, turn_tuple a _, ⟨_, Heap.get?_push_size _ rfl, rfl, rfl⟩, fun b hb => ?_, q⟩
    have e : b = s1.heap.objs.size := by simpa using hb
    subst e
    exact I1.fpOk (Nat.le_refl _) (I1.hok.fresh (Nat.le_refl _))
def seqF : List D → Option (List D)
  | [.list ds] => some ds
  | [.tuple ds] => some ds
  | _ => none
@[simp] theorem seqF_list {ds : List D} : seqF [.list ds] = some ds := rfl
@[simp] theorem seqF_tuple {ds : List D} : seqF [.tuple ds] = some ds := rfl
end
end Dk
namespace Dk
open PySem PySem.Spec PyProof.Rows L2
variable {S : Type} [StK S]
def listF : List D → Option (List D)
  | [.list ds] => some ds
  | _ => none
def tupF : List D → Option (List D)
  | [.tuple ds] => some ds
  | _ => none
@[simp] theorem listF_list {ds : List D} : listF [.list ds] = some ds := rfl
@[simp] theorem tupF_tuple {ds : List D} : tupF [.tuple ds] = some ds := rfl
theorem listF_some {ds es : List D} (h : listF ds = some es) : ds = [.list es] := by
  unfold listF at h
  split at h
  · cases h; rfl
  · cases h
theorem tupF_some {ds es : List D} (h : tupF ds = some es) : ds = [.tuple es] := by
  unfold tupF at h
  split at h
  · cases h; rfl
  · cases h
theorem src_l {F0 : Hp} {K : Fg} {a : Addr} : SrcOk K F0 (Itl K a) listF [.ref a] := by
  refine ⟨fun H F ds items i d hz _ hF h e hi => ?_, fun H F ds items hz _ hF h e => ?_⟩
  · have e := listF_some e
    subst e
    obtain ⟨v, hv, h⟩ := h.one
    cases hv
    obtain ⟨a', vs, hv, ha, ra⟩ := h.list hF
    cases hv
    obtain ⟨v, h1, h2⟩ := ra.get hi
    refine ⟨⟨vs, v, .inl (.inl ha), h1⟩, fun x H' ⟨e1, e2⟩ => .inl ⟨e1, ?_⟩⟩
    have := e2 vs (.inl (.inl ha))
    rw [h1] at this
    cases this
    exact h2
  · have e := listF_some e
    subst e
    obtain ⟨v, hv, h⟩ := h.one
    cases hv
    obtain ⟨a', vs, hv, ha, ra⟩ := h.list hF
    cases hv
    exact ⟨⟨vs, .inl (.inl ha), by rw [ra.len]; exact Nat.le_refl _⟩, by rw [← ra.len]; exact hz.l ha⟩
theorem src_t {F0 : Hp} {K : Fg} {a : Addr} : SrcOk K F0 (Itt K a) tupF [.ref a] := by
  refine ⟨fun H F ds items i d hz _ hF h e hi => ?_, fun H F ds items hz _ hF h e => ?_⟩
  · have e := tupF_some e
    subst e
    obtain ⟨v, hv, h⟩ := h.one
    cases hv
    obtain ⟨a', vs, hv, ha, ra⟩ := h.tuple hF
    cases hv
    obtain ⟨v, h1, h2⟩ := ra.get hi
    refine ⟨⟨vs, v, ha, h1⟩, fun x H' ⟨e1, e2⟩ => .inl ⟨e1, ?_⟩⟩
    have := e2 vs ha
    rw [h1] at this
    cases this
    exact h2
  · have e := tupF_some e
    subst e
    obtain ⟨v, hv, h⟩ := h.one
    cases hv
    obtain ⟨a', vs, hv, ha, ra⟩ := h.tuple hF
    cases hv
    exact ⟨⟨vs, ha, by rw [ra.len]; exact Nat.le_refl _⟩, by rw [← ra.len]; exact hz.t ha⟩
section
variable {X : Cx} {tg e a b : Expr} {es : List Expr} {pos p : Pos} {t u : (OW S)} {k : Nat}
def iSeq (t : (OW S)) : (IW S) := fun ρ P => t ρ fun k ρ1 => gets (k.rd ρ1) fun d => match d with
  | .list _ => P ⟨[k], listF⟩ ρ1
  | .tuple _ => P ⟨[k], tupF⟩ ρ1
  | _ => False
theorem ci_seq (h : CO (S := S) X e t) : CI (S := S) X tg e (iSeq t) := pi_mono (pi_seq2 h) fun σ H R ⟨B, pa, τ, F, ρ, θ, P, Rl, hl, h, q⟩ => by
  refine ⟨B, pa, τ, F, ρ, θ, _, Rl, hl, h, fun k ρ1 v H1 F1 h1 hl1 R1 s1 => ?_⟩
  obtain ⟨d, e1, h1⟩ := gets_elim h1
  have hτ : τ.length = θ.length := by have := R1.pop.len; simp at this; omega
  have R2 : Rel X.K B pa (σ ++ (τ ++ [some v])) H1 F1 (ρ1.sl ++ (θ ++ [k.sl])) ρ1.pn := by simpa only [List.append_assoc] using R1
  have rd := read_at R2 hl1 τ.length (app_last _ _) (getN hτ.symm) s1 e1
  have sl : ∀ (j : Nat) i v', [k][j]? = some (.slot i) → [v][j]? = some v' → σ[i]? = some (some v') := fun j i v' e2 e3 => by
    cases j with
    | zero => simp at e2 e3; subst e3; exact s1 i e2
    | succ j => simp at e2
  cases d with
  | list ds =>
    obtain ⟨a, vs, rfl, ha, _⟩ := rd.list R1.fh
    exact ⟨a, rfl, .inl ⟨vs, .inl (.inl ha), q _ ρ1 [.ref a] H1 F1 _ h1 hl1 rfl (by simpa using R1) sl src_l⟩⟩
  | tuple ds =>
    obtain ⟨a, vs, rfl, ha, _⟩ := rd.tuple R1.fh
    exact ⟨a, rfl, .inr ⟨vs, ha, q _ ρ1 [.ref a] H1 F1 _ h1 hl1 rfl (by simpa using R1) sl src_t⟩⟩
  | _ => exact h1.elim
def rangeD (lo : Int) (n : Nat) : List D := (List.range n).map fun i => .int (lo + (i : Nat))
theorem rangeD_get {lo : Int} {n i : Nat} {d : D} (h : (rangeD lo n)[i]? = some d) : i < n ∧ d = .int (lo + i) := by
  unfold rangeD at h
  rw [List.getElem?_map] at h
  obtain ⟨j, h1, h2⟩ := Option.map_eq_some_iff.mp h
  obtain ⟨h3, h4⟩ := List.getElem?_eq_some_iff.mp h1
  simp at h3 h4
  subst h4
  exact ⟨h3, h2.symm⟩
@[simp] theorem rangeD_len {lo : Int} {n : Nat} : (rangeD lo n).length = n := by simp [rangeD]
theorem src_r {F0 : Hp} {K : Fg} {lo : Int} {n : Nat} (hn : n ≤ sizeLine) : SrcOk K F0 (Itr lo n) (fun _ => some (rangeD lo n)) [] := by
  refine ⟨fun H F ds items i d hz _ hF h e hi => ?_, fun H F ds items hz _ hF h e => ?_⟩
  · cases e
    obtain ⟨h1, h2⟩ := rangeD_get hi
    exact ⟨h1, fun x H' ⟨e1, e2⟩ => .inl ⟨e1, by rw [h2, e2]; exact DR.int_.mpr rfl⟩⟩
  · cases e
    rw [rangeD_len]
    exact ⟨Nat.le_refl _, hn⟩
def iRange1 (t : (OW S)) : (IW S) := fun ρ P => t ρ fun k ρ1 => gets ((k.rd ρ1).bind D.int?) fun j => (-(2 ^ 62) ≤ j ∧ j ≤ 16777216) ∧ P ⟨[], fun _ => some (rangeD 0 j.toNat)⟩ ρ1
def iRange2 (t u : (OW S)) : (IW S) := fun ρ P => t ρ fun k ρ1 => u ρ1 fun k2 ρ2 => gets ((k.rd ρ2).bind D.int?) fun i => gets ((k2.rd ρ2).bind D.int?) fun j => (-(2 ^ 62) ≤ i ∧ i < 2 ^ 62 ∧ -(2 ^ 62) ≤ j ∧ j < 2 ^ 62 ∧ j - i ≤ 16777216) ∧ P ⟨[], fun _ => some (rangeD i (j - i).toNat)⟩ ρ2
theorem ci_range1 (hm : X.mg "range" = none) (h : CO (S := S) X a t) (hg : Gl X "range" := by rfl) (hs : starEach [a] X.env = (false, eval a X.env) :: starEach [] X.env := by rfl) : CI (S := S) X tg (.Call (.Name "range" p) [a] [] pos) (iRange1 t) :=
  pi_mono (pi_range1 hg hm (pa_cons h pa_nil hs) hs) fun σ H R ⟨B, pa, τ, F, ρ, θ, P, Rl, hl, h, q⟩ => by
    refine ⟨B, pa, τ, F, ρ, θ, _, Rl, hl, h, fun k ρ1 v H1 F1 h1 hl1 R1 s1 => ?_⟩
    obtain ⟨j, e, ⟨b1, b2⟩, h1⟩ := gets_elim h1
    obtain ⟨d, e1, e2⟩ := Option.bind_eq_some_iff.mp e
    have e3 := D.int?_some e2
    subst e3
    have hτ : τ.length = θ.length := by have := R1.pop.len; simp at this; omega
    have R2 : Rel X.K B pa (σ ++ (τ ++ [some v])) H1 F1 (ρ1.sl ++ (θ ++ [k.sl])) ρ1.pn := by simpa only [List.append_assoc] using R1
    have rd := read_at R2 hl1 τ.length (app_last _ _) (getN hτ.symm) s1 e1
    have hsz : sizeLine = 16777216 := sizeLine_eq
    exact ⟨j, by rw [rd.int], b1, by omega, q _ ρ1 [] H1 F1 _ h1 hl1 rfl (by simpa using R1.pop) (fun j i v e => by simp at e) (src_r (by omega))⟩
end
section
variable {K : Fg} {B : Bs} {pa : Option Addr} {zs zs' : List (Option V)} {H F : Hp} {ws ws' : List Sl} {pn : S}
theorem Rel.sub (R : Rel K B pa zs H F ws pn) (f : Nat → Nat) (hl : zs'.length = ws'.length) (hf : ∀ i j, f i = f j → i = j) (h : ∀ (i : Nat) s, ws'[i]? = some s → ws[f i]? = some s ∧ zs'[i]? = zs[f i]?) : Rel K B pa zs' H F ws' pn := by
  obtain ⟨T, t⟩ := R.st
  refine ⟨hl, R.fh, R.base, R.f0, R.fr, fun i s e => ?_, fun i j xs ys a e1 e2 e3 e4 => ?_, ⟨T, t.r, t.hn, t.fn, t.bs, fun i xs a e1 e2 => ?_⟩, R.pal, R.sz, R.tg⟩
  · obtain ⟨h1, h2⟩ := h i s e
    obtain ⟨o, q1, q2⟩ := R.sl _ s h1
    exact ⟨o, by rw [h2]; exact q1, q2⟩
  · obtain ⟨h1, h2⟩ := h i _ e1
    obtain ⟨g1, g2⟩ := h j _ e2
    exact hf i j (R.inj _ _ xs ys a h1 g1 (by rw [← h2]; exact e3) (by rw [← g2]; exact e4))
  · obtain ⟨h1, h2⟩ := h i _ e1
    exact t.ap _ xs a h1 (by rw [← h2]; exact e2)
theorem Rel.patch (R : Rel K B pa zs H F ws pn) (hl : zs'.length = ws'.length) (h : ∀ (i : Nat) s, ws'[i]? = some s → (ws[i]? = some s ∧ zs'[i]? = zs[i]?) ∨ ((∃ o, zs'[i]? = some o ∧ SlotR K B pa H F s o) ∧ ∀ xs, s ≠ .own xs)) : Rel K B pa zs' H F ws' pn := by
  obtain ⟨T, t⟩ := R.st
  refine ⟨hl, R.fh, R.base, R.f0, R.fr, fun i s e => ?_, fun i j xs ys a e1 e2 e3 e4 => ?_, ⟨T, t.r, t.hn, t.fn, t.bs, fun i xs a e1 e2 => (h i _ e1).elim (fun q => t.ap i xs a q.1 (by rw [← q.2]; exact e2)) fun q => absurd rfl (q.2 _)⟩, R.pal, R.sz, R.tg⟩
  · rcases h i s e with ⟨h1, h2⟩ | ⟨h1, _⟩
    · obtain ⟨o, q1, q2⟩ := R.sl _ s h1
      exact ⟨o, by rw [h2]; exact q1, q2⟩
    · exact h1
  · rcases h i _ e1 with ⟨h1, h2⟩ | ⟨_, h1⟩
    · rcases h j _ e2 with ⟨g1, g2⟩ | ⟨_, g1⟩
      · exact R.inj _ _ xs ys a h1 g1 (by rw [← h2]; exact e3) (by rw [← g2]; exact e4)
      · exact absurd rfl (g1 _)
    · exact absurd rfl (h1 _)
theorem Rel.dropMid {os : List (Option V)} {ss : List Sl} {o : Option V} {s : Sl} (R : Rel K B pa (zs ++ os ++ [o]) H F (ws ++ ss ++ [s]) pn) (h0 : zs.length = ws.length) (h1 : os.length = ss.length) : Rel K B pa (zs ++ [o]) H F (ws ++ [s]) pn := by
  refine R.sub (fun i => if i < ws.length then i else i + ss.length) (by simp [h0]) (fun i j e => ?_) (fun i t e => ?_)
  · split at e <;> split at e <;> omega
  · rcases get_app e with e | ⟨rfl, rfl⟩
    · have hi := (List.getElem?_eq_some_iff.mp e).1
      rw [if_pos hi]
      rw [List.append_assoc, List.append_assoc, List.getElem?_append_left hi, List.getElem?_append_left (by omega), List.getElem?_append_left (by omega)]
      exact ⟨e, rfl⟩
    · rw [if_neg (Nat.lt_irrefl _)]
      have e1 : ws.length + ss.length = (ws ++ ss).length := by simp
      have e2 : ws.length + ss.length = (zs ++ os).length := by simp [h0, h1]
      refine ⟨by rw [e1]; exact app_last _ _, ?_⟩
      rw [e2, app_last, ← h0, app_last]
theorem Rel.setVal {d : D} {v : V} {i : Nat} (R : Rel K B pa zs H F ws pn) (h : DR K F d v) (hi : i < zs.length) : Rel K B pa (zs.set i (some v)) H F (ws.set i (.val d)) pn := (R.pushVal h).move hi
theorem Rel.yl {d : D} {x : V} {H' : Hp} (R : Rel K B pa zs H F ws pn) (h : Yl K F H d x H') : ∃ F', Le F F' ∧ Rel K B pa zs H' F' ws pn ∧ DR K F' d x := by
  rcases h with ⟨rfl, h⟩ | ⟨p, ds, vs, o, rfl, rfl, hp, rfl, h, hz, ho⟩
  · exact ⟨F, Le.refl _, R, h⟩
  · have R1 := R.pushTup hp h hz ho
    obtain ⟨n1, _, _⟩ := R.hnone hp
    exact ⟨_, le_upd n1, R1.pop, DR.tupC_.mpr ⟨p, vs, rfl, .inl ⟨o, upd_same, ho⟩, h.mono (le_upd n1)⟩⟩
end
abbrev GW (S : Type := Option Pen) := D → (En S) → ((En S) → Prop) → Prop
abbrev GWs (S : Type := Option Pen) := List D → (En S) → ((En S) → Prop) → Prop
def liftG (K : Fg) (is : List Nat) (g : (GW S)) : TG := fun v σ H Q => ∃ B pa τ F ρ θ P d, Rel K B pa (σ ++ τ) H F (ρ.sl ++ θ) ρ.pn ∧ ρ.sl.length = σ.length ∧ DR K F d v ∧ g d ρ P ∧
  ∀ ρ' σ', P ρ' → σ'.length = σ.length → ρ'.sl.length = σ.length → (∀ js, (∀ i ∈ is, i ∈ js) → wipe σ' js = wipe σ js) → Rel K B pa (σ' ++ τ) H F (ρ'.sl ++ θ) ρ'.pn → Q σ' H
def liftGs (K : Fg) (is : List Nat) (g : (GWs S)) : TGs := fun vs σ H Q => ∃ B pa τ F ρ θ P ds, Rel K B pa (σ ++ τ) H F (ρ.sl ++ θ) ρ.pn ∧ ρ.sl.length = σ.length ∧ DRs K F ds vs ∧ g ds ρ P ∧
  ∀ ρ' σ', P ρ' → σ'.length = σ.length → ρ'.sl.length = σ.length → (∀ js, (∀ i ∈ is, i ∈ js) → wipe σ' js = wipe σ js) → Rel K B pa (σ' ++ τ) H F (ρ'.sl ++ θ) ρ'.pn → Q σ' H
abbrev CG (X : Cx) (tg : Expr) (is : List Nat) (g : (GW S)) : Prop := PG X tg (liftG X.K is g)
abbrev CGs (X : Cx) (tg : List Expr) (is : List Nat) (g : (GWs S)) : Prop := PGs X tg (liftGs X.K is g)
theorem pg_mono {X : Cx} {e : Expr} {t u : TG} (h : PG X e t) (m : ∀ v σ H Q, u v σ H Q → t v σ H Q) : PG X e u := ⟨fun pins s σ H v u' Q I r q => h.run pins s σ H v u' Q I r (m v σ H Q q)⟩
theorem pgs_mono {X : Cx} {e : List Expr} {t u : TGs} (h : PGs X e t) (m : ∀ v σ H Q, u v σ H Q → t v σ H Q) : PGs X e u := ⟨fun pins s σ H v u' Q I r q => h.run pins s σ H v u' Q I r (m v σ H Q q)⟩
theorem wipe_get {σ : L2.St} {i : Nat} : ∀ {vs : List Nat}, (wipe σ vs)[i]? = if i ∈ vs then (if i < σ.length then some none else none) else σ[i]?
  | [] => by simp [wipe]
  | v :: vs => by
    unfold wipe
    by_cases h : v = i
    · subst h
      rw [List.getElem?_set_self', if_pos List.mem_cons_self]
      have := wipe_length σ vs
      by_cases hi : v < σ.length
      · rw [if_pos hi, List.getElem?_eq_getElem (by omega)]; rfl
      · rw [if_neg hi, List.getElem?_eq_none (by omega)]; rfl
    · rw [List.getElem?_set_ne h, wipe_get]
      by_cases h2 : i ∈ vs
      · rw [if_pos h2, if_pos (List.mem_cons_of_mem _ h2)]
      · rw [if_neg h2, if_neg (fun z => (List.mem_cons.mp z).elim (fun e => h e.symm) h2)]
theorem wipe_set {σ : L2.St} {i : Nat} {x : Option V} {js : List Nat} (h : i ∈ js) : wipe (σ.set i x) js = wipe σ js := by
  apply List.ext_getElem?
  intro j
  rw [wipe_get, wipe_get, List.length_set]
  by_cases hj : j ∈ js
  · rw [if_pos hj, if_pos hj]
  · rw [if_neg hj, if_neg hj, List.getElem?_set_ne (fun e => hj (by rw [← e]; exact h))]
theorem wipe_wipe {σ : L2.St} {vs : List Nat} : wipe (wipe σ vs) vs = wipe σ vs := by
  apply List.ext_getElem?
  intro j
  rw [wipe_get, wipe_length, wipe_get]
  split <;> rfl
section
variable {X : Cx} {pos : Pos} {k : Nat}
def gN (i : Nat) : (GW S) := fun d ρ P => P { ρ with sl := ρ.sl.set i (.val d) }
theorem cg_n (i : Nat) {x : Str} (nd : X.N.Nodup) (hi : X.N[i]? = some x := by rfl) (hx : Loc X.env.scope x := by first | exact .inl rfl | exact .inr rfl) (hf : X.fn x = true ∨ X.env.scope.names.lookup x = some .local := by first | exact .inl rfl | exact .inr rfl) : CG (S := S) X (.Name x pos) [i] (gN i) :=
  pg_mono (pg_name nd hi hx hf) fun v σ H Q ⟨B, pa, τ, F, ρ, θ, P, d, R, hl, hd, h, q⟩ => by
    by_cases hi : i < σ.length
    · have R1 := R.setVal hd (i := i) (by simp; omega)
      rw [List.set_append_left _ _ hi, List.set_append_left _ _ (by omega)] at R1
      exact q _ _ h (by simp) (by simpa using hl) (fun js hj => wipe_set (hj i (by simp))) R1
    · have e1 : σ.set i (some v) = σ := List.set_eq_of_length_le (by omega)
      have e2 : ρ.sl.set i (.val d) = ρ.sl := List.set_eq_of_length_le (by omega)
      have h : P { ρ with sl := ρ.sl.set i (.val d) } := h
      show Q (σ.set i (some v)) H
      rw [e2] at h
      rw [e1]
      exact q _ _ h rfl hl (fun _ _ => rfl) R
def gNil : (GWs S) := fun ds ρ P => ds = [] ∧ P ρ
def gCons (g : (GW S)) (u : (GWs S)) : (GWs S) := fun ds ρ P => match ds with
  | d :: r => g d ρ fun ρ1 => u r ρ1 P
  | [] => False
theorem cgs_nil : CGs (S := S) X [] [] gNil := pgs_mono pgs_nil fun v σ H Q ⟨B, pa, τ, F, ρ, θ, P, ds, R, hl, hd, ⟨h1, h⟩, q⟩ => by
  subst h1
  exact ⟨DRs.nil_.mp hd, q _ _ h rfl hl (fun _ _ => rfl) R⟩
theorem cgs_cons {e : Expr} {es : List Expr} {i1 i2 : List Nat} {g : (GW S)} {u : (GWs S)} (h1 : CG (S := S) X e i1 g) (h2 : CGs (S := S) X es i2 u) (hs : (assignEach (e :: es) X.env).map (·.2) = assign e X.env :: (assignEach es X.env).map (·.2) := by rfl) : CGs (S := S) X (e :: es) (i1 ++ i2) (gCons g u) :=
  pgs_mono (pgs_cons h1 h2 hs) fun v σ H Q ⟨B, pa, τ, F, ρ, θ, P, ds, R, hl, hd, h, q⟩ => by
    cases ds with
    | nil => exact h.elim
    | cons d ds =>
      obtain ⟨x, r, rfl, hd1, hd2⟩ := DRs.cons_.mp hd
      refine ⟨x, r, rfl, B, pa, τ, F, ρ, θ, _, d, R, hl, hd1, h, fun ρ1 σ1 hp l1 l2 w1 R1 => ?_⟩
      refine ⟨B, pa, τ, F, ρ1, θ, P, ds, R1, by omega, hd2, hp, fun ρ2 σ2 hp2 l3 l4 w2 R2 => ?_⟩
      exact q ρ2 σ2 hp2 (by omega) (by omega) (fun js hj => (w2 js fun i hi => hj i (List.mem_append_right _ hi)).trans (w1 js fun i hi => hj i (List.mem_append_left _ hi))) R2
def gT (n : Nat) (u : (GWs S)) : (GW S) := fun d ρ P => match d with
  | .tuple ds => ds.length = n ∧ u ds ρ P
  | _ => False
theorem cg_t {es : List Expr} {x1 : Nat} {is : List Nat} {u : (GWs S)} {n : Nat} (hx : XO X k) (h : CGs (S := S) X es is u) (hn : (assignEach es X.env).length = n := by rfl) (hst : (assignEach es X.env).findIdx? (·.1) = none := by rfl) : CG (S := S) X (.Tuple es x1 pos) is (gT n u) :=
  pg_mono (pg_tup hx.calm h hn hst) fun v σ H Q ⟨B, pa, τ, F, ρ, θ, P, d, R, hl, hd, h, q⟩ => by
    cases d with
    | tuple ds =>
      obtain ⟨a, vs, rfl, h1, h2⟩ := DR.tuple_s hd
      exact ⟨a, vs, rfl, R.fh.t h1, by rw [h2.len]; exact h.1, B, pa, τ, F, ρ, θ, P, ds, R, hl, h2, h.2, q⟩
    | _ => exact h.elim
end
end Dk
namespace Dk
open PySem PySem.Spec PyProof.Rows L2
variable {S : Type} [StK S]
def wipeD (ρ : List Sl) : List Nat → List Sl
  | [] => ρ
  | v :: vs => (wipeD ρ vs).set v .un
def keepV : Option Sl → Sl
  | some (.val d) => .val d
  | _ => .un
def unwipe (ρ0 ρ : List Sl) : List Nat → List Sl
  | [] => ρ
  | v :: vs => (unwipe ρ0 ρ vs).set v (keepV ρ0[v]?)
theorem wipeD_len (ρ : List Sl) : ∀ vs, (wipeD ρ vs).length = ρ.length
  | [] => rfl
  | v :: vs => by unfold wipeD; rw [List.length_set, wipeD_len ρ vs]
theorem unwipe_len (ρ0 ρ : List Sl) : ∀ vs, (unwipe ρ0 ρ vs).length = ρ.length
  | [] => rfl
  | v :: vs => by unfold unwipe; rw [List.length_set, unwipe_len ρ0 ρ vs]
theorem wipeD_get {ρ : List Sl} {i : Nat} : ∀ {vs : List Nat}, (wipeD ρ vs)[i]? = if i ∈ vs then (if i < ρ.length then some .un else none) else ρ[i]?
  | [] => by simp [wipeD]
  | v :: vs => by
    unfold wipeD
    by_cases h : v = i
    · subst h
      rw [List.getElem?_set_self', if_pos List.mem_cons_self]
      have := wipeD_len ρ vs
      by_cases hi : v < ρ.length
      · rw [if_pos hi, List.getElem?_eq_getElem (by omega)]; rfl
      · rw [if_neg hi, List.getElem?_eq_none (by omega)]; rfl
    · rw [List.getElem?_set_ne h, wipeD_get]
      by_cases h2 : i ∈ vs
      · rw [if_pos h2, if_pos (List.mem_cons_of_mem _ h2)]
      · rw [if_neg h2, if_neg (fun z => (List.mem_cons.mp z).elim (fun e => h e.symm) h2)]
theorem unwipe_get {ρ0 ρ : List Sl} {i : Nat} : ∀ {vs : List Nat}, (unwipe ρ0 ρ vs)[i]? = if i ∈ vs then (if i < ρ.length then some (keepV ρ0[i]?) else none) else ρ[i]?
  | [] => by simp [unwipe]
  | v :: vs => by
    unfold unwipe
    by_cases h : v = i
    · subst h
      rw [List.getElem?_set_self', if_pos List.mem_cons_self]
      have := unwipe_len ρ0 ρ vs
      by_cases hi : v < ρ.length
      · rw [if_pos hi, List.getElem?_eq_getElem (l := unwipe ρ0 ρ vs) (by omega)]; rfl
      · rw [if_neg hi, List.getElem?_eq_none (l := unwipe ρ0 ρ vs) (by omega)]; rfl
    · rw [List.getElem?_set_ne h, unwipe_get]
      by_cases h2 : i ∈ vs
      · rw [if_pos h2, if_pos (List.mem_cons_of_mem _ h2)]
      · rw [if_neg h2, if_neg (fun z => (List.mem_cons.mp z).elim (fun e => h e.symm) h2)]
theorem Rel.wiped {K : Fg} {B : Bs} {pa : Option Addr} {σ : L2.St} {τ : List (Option V)} {H F : Hp} {ρ θ : List Sl} {pn : S} (vs : List Nat) (R : Rel K B pa (σ ++ τ) H F (ρ ++ θ) pn) (hl : ρ.length = σ.length) : Rel K B pa (wipe σ vs ++ τ) H F (wipeD ρ vs ++ θ) pn := by
  have hτ : τ.length = θ.length := by have := R.len; simp at this; omega
  refine R.patch (by simp [wipe_length, wipeD_len, hl, hτ]) fun i s e => ?_
  by_cases hi : i < ρ.length
  · rw [List.getElem?_append_left (by rw [wipeD_len]; exact hi), wipeD_get] at e
    rw [List.getElem?_append_left hi, List.getElem?_append_left (by rw [wipe_length]; omega), List.getElem?_append_left (by omega), wipe_get]
    by_cases hv : i ∈ vs
    · rw [if_pos hv, if_pos hi] at e
      rw [if_pos hv, if_pos (by omega)]
      cases e
      exact .inr ⟨⟨none, rfl, trivial⟩, fun _ => nofun⟩
    · rw [if_neg hv] at e
      rw [if_neg hv]
      exact .inl ⟨e, rfl⟩
  · rw [List.getElem?_append_right (by rw [wipeD_len]; omega), wipeD_len] at e
    rw [List.getElem?_append_right (by omega), List.getElem?_append_right (by rw [wipe_length]; omega), List.getElem?_append_right (by omega), wipe_length]
    exact .inl ⟨e, rfl⟩
theorem Rel.unwiped {K : Fg} {B : Bs} {pa : Option Addr} {σ : L2.St} {τ τ0 : List (Option V)} {H F H0 F0 : Hp} {ρ ρ0 θ θ0 : List Sl} {pn pn0 : S} (vs : List Nat) (R : Rel K B pa (wipe σ vs ++ τ) H F (ρ ++ θ) pn) (hl : ρ.length = σ.length) (R0 : Rel K B pa (σ ++ τ0) H0 F0 (ρ0 ++ θ0) pn0) (hl0 : ρ0.length = σ.length) (hF : Le F0 F) : Rel K B pa (σ ++ τ) H F (unwipe ρ0 ρ vs ++ θ) pn := by
  have hτ : τ.length = θ.length := by have := R.len; simp [wipe_length] at this; omega
  refine R.patch (by simp [unwipe_len, hl, hτ]) fun i s e => ?_
  by_cases hi : i < ρ.length
  · rw [List.getElem?_append_left (by rw [unwipe_len]; exact hi), unwipe_get] at e
    rw [List.getElem?_append_left hi, List.getElem?_append_left (by omega), List.getElem?_append_left (by rw [wipe_length]; omega), wipe_get]
    by_cases hv : i ∈ vs
    · rw [if_pos hv, if_pos hi] at e
      cases e
      refine .inr ⟨?_, fun xs => ?_⟩
      · have hs : i < σ.length := by omega
        refine ⟨σ[i], List.getElem?_eq_getElem hs, ?_⟩
        cases hk : ρ0[i]? with
        | none => trivial
        | some t =>
          cases t with
          | val d =>
            obtain ⟨o, h1, v, h2, h3⟩ := R0.sl i (.val d) (by rw [List.getElem?_append_left (by omega)]; exact hk)
            subst h2
            rw [List.getElem?_append_left hs, List.getElem?_eq_getElem hs] at h1
            exact ⟨v, by injection h1, h3.mono hF⟩
          | _ => trivial
      · cases hk : ρ0[i]? with
        | none => nofun
        | some t => cases t <;> nofun
    · rw [if_neg hv] at e
      rw [if_neg hv]
      exact .inl ⟨e, rfl⟩
  · rw [List.getElem?_append_right (by rw [unwipe_len]; omega), unwipe_len] at e
    rw [List.getElem?_append_right (by omega), List.getElem?_append_right (by omega), List.getElem?_append_right (by rw [wipe_length]; omega), wipe_length]
    exact .inl ⟨e, rfl⟩
theorem Rel.last {K : Fg} {B : Bs} {pa : Option Addr} {zs : List (Option V)} {H F : Hp} {ws : List Sl} {pn : S} {o : Option V} {s : Sl} (R : Rel K B pa (zs ++ [o]) H F (ws ++ [s]) pn) : SlotR K B pa H F s o ∧ (zs ++ [o])[ws.length]? = some o := by
  have h := R.pop.len
  obtain ⟨o', h1, h2⟩ := R.sl ws.length s (app_last _ _)
  rw [← h, app_last] at h1
  cases h1
  exact ⟨h2, by rw [← h, app_last]⟩
theorem Rel.focus {K : Fg} {B : Bs} {pa : Option Addr} {zs : List (Option V)} {H F : Hp} {ws : List Sl} {pn : S} (R : Rel K B pa zs H F ws pn) : Rel K ⟨B.H0, F, B.M⟩ pa zs H F ws pn :=
  ⟨R.len, R.fh, R.base, Le.refl _, fun b o e => .inl e, R.sl, R.inj, R.st.imp fun _ t => ⟨t.r, t.hn, t.fn, t.bs, t.ap⟩, R.pal, R.sz, R.tg⟩
theorem Rel.rebase {K : Fg} {B : Bs} {pa : Option Addr} {zs zs1 : List (Option V)} {H F H1 F1 : Hp} {ws ws1 : List Sl} {pn pn1 : S} (R : Rel K ⟨B.H0, F1, B.M⟩ pa zs H F ws pn) (R1 : Rel K B pa zs1 H1 F1 ws1 pn1) : Rel K B pa zs H F ws pn :=
  ⟨R.len, R.fh, R.base, R1.f0.trans R.f0, fun b o e => (R.fr b o e).elim (R1.fr b o) .inr, R.sl, R.inj, R.st.imp fun _ t => ⟨t.r, t.hn, t.fn, t.bs, t.ap⟩, R.pal, R.sz, R.tg⟩
theorem rds_mem {ρ : En S} : ∀ {ks : List Tk} {ds : List D} {j : Nat} {k : Tk}, rds ρ ks = some ds → ks[j]? = some k → ∃ d, k.rd ρ = some d
  | [], ds, j, k, _, e => by simp at e
  | k' :: ks, ds, j, k, h, e => by
    rw [rds_cons] at h
    obtain ⟨d, h1, h⟩ := Option.bind_eq_some_iff.mp h
    obtain ⟨ds', h2, h⟩ := Option.bind_eq_some_iff.mp h
    cases j with
    | zero => simp at e; subst e; exact ⟨d, h1⟩
    | succ j => exact rds_mem h2 (by simpa using e)
theorem live_read {K : Fg} {B : Bs} {pa : Option Addr} {σ : L2.St} {τ : List (Option V)} {H F : Hp} {ρ : En S} {ρ0 θ : List Sl} {vs : List Nat} {us : List V} {c : Sc} {items : List D} (R : Rel K B pa (wipe σ vs ++ (τ ++ us.map some)) H F (ρ.sl ++ (θ ++ c.ks.map Tk.sl)) ρ.pn) (hl : ρ.sl.length = σ.length) (hτ : τ.length = θ.length) (hρ : ρ.sl = wipeD ρ0 vs)
    (hk : c.ks.length = us.length) (s1 : ∀ (j : Nat) i v, c.ks[j]? = some (.slot i) → us[j]? = some v → σ[i]? = some (some v)) (h : c.items ρ = some items) : ∃ ds, RdDs K H F ds us ∧ c.f ds = some items := by
  obtain ⟨ds, h1, h2⟩ := Option.bind_eq_some_iff.mp h
  refine ⟨ds, reads_all (σ := wipe σ vs) (by rw [wipe_length]; exact hl) c.ks us τ θ ds hτ hk R (fun j i v e1 e2 => ?_) h1, h2⟩
  obtain ⟨d, h3⟩ := rds_mem h1 e1
  have h3 : (ρ.sl[i]?).bind Sl.rd = some d := h3
  have hn : i ∉ vs := fun hv => by
    rw [hρ, wipeD_get, if_pos hv] at h3
    split at h3 <;> cases h3
  rw [wipe_get, if_neg hn]
  exact s1 j i v e1 e2
def Tk.valD : Tk → Option D
  | .tmp (.val d) => some d
  | _ => none
@[simp] theorem valD_val {d : D} : Tk.valD (.tmp (.val d)) = some d := rfl
theorem valD_some {k : Tk} {d : D} (h : k.valD = some d) : k = .tmp (.val d) := by
  unfold Tk.valD at h
  split at h
  · cases h; rfl
  · cases h
def lcW (c : Sc) (items : List D) (g : (GW S)) (tt : (BW S)) (te : (OW S)) (vs : List Nat) (Q : List D → (En S) → Prop) : List D → List D → (En S) → Prop
  | [], acc, ρ => c.items ρ = some items ∧ Q acc ρ
  | d :: r, acc, ρ => c.items ρ = some items ∧ g d ρ fun ρ1 => tt ρ1 fun b ρ2 => if b = true then te ρ2 fun k ρ3 => gets k.valD fun y => lcW c items g tt te vs Q r (acc ++ [y]) { ρ3 with sl := wipeD ρ3.sl vs } else lcW c items g tt te vs Q r acc { ρ2 with sl := wipeD ρ2.sl vs }
def dLc (it : (IW S)) (g : (GW S)) (tt : (BW S)) (te : (OW S)) (vs : List Nat) : (DW S) := fun ρ P => it ρ fun c ρ1 => gets (c.items ρ1) fun items => items.length ≤ sizeLine →
  lcW c items g tt te vs (fun acc ρ2 => P (.own acc) { ρ2 with sl := unwipe ρ1.sl ρ2.sl vs }) items [] { ρ1 with sl := wipeD ρ1.sl vs }
theorem lc_step {K : Fg} {it : (IW S)} {g : (GW S)} {tt : (BW S)} {te : (OW S)} {is vs : List Nat} (hv : ∀ i ∈ is, i ∈ vs) {σ : L2.St} {H : Hp} {Q : VK} (h : liftO K (tmpD (dLc it g tt te vs)) σ H Q) : tLc (liftI K it) (liftG K is g) (liftT K tt) (liftO K te) vs σ H Q := by
  obtain ⟨B, pa, τ, F, ρ, θ, P, R, hl, h, q⟩ := toE h
  refine ⟨B, pa, τ, F, ρ, θ, _, R, hl, h, fun c ρ1 us H1 F1 J h1 hl1 hk R1 s1 src => fun Da hDa => ?_⟩
  obtain ⟨items, ei, h1⟩ := gets_elim h1
  have hτ : τ.length = θ.length := by have := (R1.pops (by simp [hk])).len; simp at this; omega
  have R1' : Rel K B pa (σ ++ (τ ++ us.map some)) H1 F1 (ρ1.sl ++ (θ ++ c.ks.map Tk.sl)) ρ1.pn := by simpa only [List.append_assoc] using R1
  obtain ⟨ds0, er, ef⟩ := Option.bind_eq_some_iff.mp ei
  have rd0 := reads_all (σ := σ) hl1 c.ks us τ θ ds0 hτ hk R1' s1 er
  obtain ⟨_, hsz⟩ := src.stop H1 F1 ds0 items R1.sz (Le.refl _) R1.fh rd0 ef
  have h1 := h1 hsz
  refine ⟨fun i m Hc => ∃ (ρc ρ0 : (En S)) (Fc : Hp) (acc : List D), Rel K ⟨B.H0, F1, B.M⟩ pa (wipe σ vs ++ (τ ++ us.map some) ++ [some (.ref Da)]) Hc Fc (ρc.sl ++ (θ ++ c.ks.map Tk.sl) ++ [.own acc]) ρc.pn ∧ ρc.sl.length = σ.length ∧ ρc.sl = wipeD ρ0.sl vs ∧ i ≤ items.length ∧ m = items.length - i ∧ acc.length ≤ i ∧
    lcW c items g tt te vs (fun acc ρ2 => P (.own acc) { ρ2 with sl := unwipe ρ1.sl ρ2.sl vs }) (items.drop i) acc ρc, ⟨items.length, { ρ1 with sl := wipeD ρ1.sl vs }, ρ1, F1, [], ?_, by simp [wipeD_len, hl1], rfl, Nat.zero_le _, rfl, Nat.le_refl _, h1⟩, ?_⟩
  · have R2 := R1'.focus.pushOwn (vs := []) hDa .nil (Nat.zero_le _)
    rw [List.append_assoc σ, List.append_assoc ρ1.sl] at R2
    have R3 := R2.wiped vs hl1
    rw [← List.append_assoc (wipe σ vs), ← List.append_assoc (wipeD ρ1.sl vs)] at R3
    exact R3
  · rintro i m Hc ⟨ρc, ρ0, Fc, acc, Rc, hlc, hw, hi, rfl, ha, hq⟩
    by_cases hlt : i < items.length
    · have ed : items.drop i = items[i] :: items.drop (i + 1) := List.drop_eq_getElem_cons hlt
      rw [ed] at hq
      obtain ⟨hlive, hq⟩ := hq
      obtain ⟨ds, rd, ef⟩ := live_read Rc.pop hlc hτ hw hk s1 hlive
      obtain ⟨go, yl⟩ := src.step Hc Fc ds items i items[i] Rc.sz Rc.f0 Rc.fh rd ef (List.getElem?_eq_getElem hlt)
      refine .inr ⟨go, fun H' => ∃ (ρc ρ0 : (En S)) (Fc : Hp) (acc : List D), Rel K ⟨B.H0, F1, B.M⟩ pa (wipe σ vs ++ (τ ++ us.map some) ++ [some (.ref Da)]) H' Fc (ρc.sl ++ (θ ++ c.ks.map Tk.sl) ++ [.own acc]) ρc.pn ∧ ρc.sl.length = σ.length ∧ ρc.sl = wipeD ρ0.sl vs ∧ acc.length ≤ i + 1 ∧
        lcW c items g tt te vs (fun acc ρ2 => P (.own acc) { ρ2 with sl := unwipe ρ1.sl ρ2.sl vs }) (items.drop (i + 1)) acc ρc, fun H' ⟨ρc, ρ0, Fc, acc, a1, a2, a3, a5, a6⟩ => ⟨items.length - (i + 1), by omega, ρc, ρ0, Fc, acc, a1, a2, a3, hlt, rfl, a5, a6⟩, fun x H' hy => ?_⟩
      obtain ⟨F', hF', R', dx⟩ := Rc.yl (yl x H' hy)
      refine ⟨⟨B.H0, F1, B.M⟩, pa, τ ++ us.map some ++ [some (.ref Da)], F', ρc, θ ++ c.ks.map Tk.sl ++ [.own acc], _, items[i], by simpa only [List.append_assoc] using R', by rw [wipe_length]; exact hlc, dx, hq, fun ρ2 σ2 h2 l1 l2 w2 R2 => ⟨?_, ?_⟩⟩
      · rw [w2 vs hv, wipe_wipe]
      · rw [wipe_length] at l1 l2
        have ew : wipe σ2 vs = wipe σ vs := by rw [w2 vs hv, wipe_wipe]
        refine ⟨⟨B.H0, F1, B.M⟩, pa, _, F', ρ2, _, _, R2, by omega, h2, fun b ρ3 H3 F3 h3 l3 R3 => ?_⟩
        cases b with
        | false =>
          refine iteF ⟨{ ρ3 with sl := wipeD ρ3.sl vs }, ρ3, F3, acc, ?_, by simp [wipeD_len]; omega, rfl, by omega, by simpa using h3⟩
          have R4 := R3.wiped vs (by omega)
          rw [ew] at R4
          simpa only [List.append_assoc] using R4
        | true =>
          have h3 : te ρ3 fun k ρ4 => gets k.valD fun y => lcW c items g tt te vs (fun acc ρ2 => P (.own acc) { ρ2 with sl := unwipe ρ1.sl ρ2.sl vs }) (items.drop (i + 1)) (acc ++ [y]) { ρ4 with sl := wipeD ρ4.sl vs } := by simpa using h3
          refine iteT ⟨⟨B.H0, F1, B.M⟩, pa, _, F3, ρ3, _, _, R3, by omega, h3, fun k ρ4 y H4 F4 h4 l4 R4 _ => ?_⟩
          obtain ⟨d, ek, h4⟩ := gets_elim h4
          have ek := valD_some ek
          subst ek
          obtain ⟨⟨u, g2, g3⟩, _⟩ := Rel.last (s := .val d) R4
          cases g2
          have R5 : Rel K ⟨B.H0, F1, B.M⟩ pa (σ2 ++ (τ ++ us.map some) ++ [some (.ref Da)]) H4 F4 (ρ4.sl ++ (θ ++ c.ks.map Tk.sl) ++ [.own acc]) ρ4.pn := by simpa only [List.append_assoc] using R4.pop
          obtain ⟨⟨a', av, q2, q3, q4, _⟩, q1⟩ := R5.last
          cases q2
          have hal : av.length < sizeLine := by rw [q4.len]; omega
          refine ⟨av, q3, hal, { ρ4 with sl := wipeD ρ4.sl vs }, ρ4, F4, acc ++ [d], ?_, by simp [wipeD_len]; omega, rfl, by simp; omega, h4⟩
          have R6 := R5.write (i := (ρ4.sl ++ (θ ++ c.ks.map Tk.sl)).length) (a := Da) (ys := acc ++ [d]) (vs := av ++ [y]) (app_last _ _) q1 (q4.append (.cons g3 .nil)) (by simp; omega)
          rw [List.set_append_right _ _ (Nat.le_refl _), Nat.sub_self] at R6
          have R7 : Rel K ⟨B.H0, F1, B.M⟩ pa (σ2 ++ (τ ++ us.map some ++ [some (.ref Da)])) (upd H4 Da (.lst (av ++ [y]))) F4 (ρ4.sl ++ (θ ++ c.ks.map Tk.sl ++ [.own (acc ++ [d])])) ρ4.pn := by simpa only [List.append_assoc, List.set_cons_zero] using R6
          have R8 := R7.wiped vs (by omega)
          rw [ew] at R8
          simpa only [List.append_assoc] using R8
    · have e : i = items.length := by omega
      subst e
      rw [List.drop_length] at hq
      obtain ⟨hlive, hq⟩ := hq
      obtain ⟨ds, rd, ef⟩ := live_read Rc.pop hlc hτ hw hk s1 hlive
      refine .inl ⟨(src.stop Hc Fc ds items Rc.sz Rc.f0 Rc.fh rd ef).1, q _ _ _ Hc Fc hq (by simp [unwipe_len, hlc]) ?_⟩
      have R5 : Rel K ⟨B.H0, F1, B.M⟩ pa (wipe σ vs ++ (τ ++ us.map some ++ [some (.ref Da)])) Hc Fc (ρc.sl ++ (θ ++ c.ks.map Tk.sl ++ [.own acc])) ρc.pn := by simpa only [List.append_assoc] using Rc
      have R6 := (R5.rebase R1').unwiped vs hlc R1' hl1 Rc.f0
      have R7 : Rel K B pa ((σ ++ τ) ++ us.map some ++ [some (.ref Da)]) Hc Fc ((unwipe ρ1.sl ρc.sl vs ++ θ) ++ c.ks.map Tk.sl ++ [.own acc]) ρc.pn := by simpa only [List.append_assoc] using R6
      exact R7.dropMid (by simp [unwipe_len, hlc, hl1, hτ]) (by simp [hk])
section
variable {X : Cx} {tg iter elt : Expr} {ifs : List Expr} {scope : Scope} {pos : Pos} {k : Nat} {it : (IW S)} {g : (GW S)} {tt : (BW S)} {te : (OW S)} {is : List Nat} {own : List (Str × Nat)}
abbrev CTs (X : Cx) (ifs : List Expr) (t : (BW S)) : Prop := PTs X ifs (liftT X.K t)
def dYes : (BW S) := fun ρ P => P true ρ
theorem pts_mono {X : Cx} {ifs : List Expr} {t u : TT} (h : PTs X ifs t) (m : ∀ σ H Q, u σ H Q → t σ H Q) : PTs X ifs u := ⟨fun pins s σ H Q I q => h.run pins s σ H Q I (m σ H Q q)⟩
theorem cts_nil {X : Cx} : CTs (S := S) X [] dYes := pts_mono pts_nil fun σ H Q ⟨B, pa, τ, F, ρ, θ, P, R, hl, h, q⟩ => q true ρ H F h hl R
theorem XO.blk {s : Shared} {H : Hp} {cenv : Env} {fp : List Addr} (h : XO X k) : XO (X.blk s H scope cenv fp) k := ⟨h.calm, h.room, h.gd, h.nd, PassesOwn.never⟩
theorem ce_lc (own : List (Str × Nat)) (hx : XO X k) (hi : CI (S := S) X tg iter it)
    (hg : ∀ (s : Shared) (H : Hp) (C : Addr) (cl : List (Str × Addr)) (fp : List Addr), CG (S := S) (X.blk s H scope (compEnvC scope cl C X.env) fp) tg is g)
    (ht : ∀ (s : Shared) (H : Hp) (C : Addr) (cl : List (Str × Addr)) (fp : List Addr), CTs (S := S) (X.blk s H scope (compEnvC scope cl C X.env) fp) ifs tt)
    (he : ∀ (s : Shared) (H : Hp) (C : Addr) (cl : List (Str × Addr)) (fp : List Addr), CO (S := S) (X.blk s H scope (compEnvC scope cl C X.env) fp) elt te)
    (ok : blkC X.N X.env.scope scope own = true := by kernel_rfl) (hv : ∀ i ∈ is, i ∈ own.map (·.2) := by decide) (hs : ∀ x, foldedSetIterable iter X.env x = pure x := by intro _; rfl) :
    CE (S := S) X (.ListComp elt [⟨tg, iter, ifs, 0⟩] scope pos) (dLc it g tt te (own.map (·.2))) := pe_mono (pe_lc hx.calm hx.nd hi (blkOk_by ok) hg ht he hs) fun _ _ _ h => lc_step hv h
end
end Dk
namespace Dk
open PySem PySem.Spec PyProof.Rows L2
variable {S : Type} [StK S]
structure DE (S : Type := Option Pen) where
  nx : (En S) → Prop
  rt : D → S → Prop
  bk : (En S) → Prop := fun _ => False
  ct : (En S) → Prop := fun _ => False
  ro : List D → S → Prop := fun _ _ => False
abbrev DS (S : Type := Option Pen) := (DE S) → (En S) → Prop
structure Cont (K : Fg) (B : Bs) (pa : Option Addr) (τ : List (Option V)) (θ : List Sl) (n : Nat) (E : (DE S)) (Z : Ends) : Prop where
  nx : ∀ (σ : L2.St) (ρ : (En S)) (H F : Hp), E.nx ρ → σ.length = n → ρ.sl.length = n → Rel K B pa (σ ++ τ) H F (ρ.sl ++ θ) ρ.pn → Z.nx σ H
  bk : ∀ (σ : L2.St) (ρ : (En S)) (H F : Hp), E.bk ρ → σ.length = n → ρ.sl.length = n → Rel K B pa (σ ++ τ) H F (ρ.sl ++ θ) ρ.pn → Z.bk σ H
  ct : ∀ (σ : L2.St) (ρ : (En S)) (H F : Hp), E.ct ρ → σ.length = n → ρ.sl.length = n → Rel K B pa (σ ++ τ) H F (ρ.sl ++ θ) ρ.pn → Z.ct σ H
  rt : ∀ (zs : List (Option V)) (ws : List Sl) (d : D) (pn : S) (v : V) (H F : Hp), E.rt d pn → Rel K B pa (zs ++ [some v]) H F (ws ++ [.val d]) pn → Z.rt v H
  ro : ∀ (zs : List (Option V)) (ws : List Sl) (xs : List D) (pn : S) (v : V) (H F : Hp), E.ro xs pn → Rel K B pa (zs ++ [some v]) H F (ws ++ [.own xs]) pn → Z.rt v H
def liftS (K : Fg) (t : (DS S)) : TS := fun Z σ H => ∃ B pa τ F ρ θ E, Rel K B pa (σ ++ τ) H F (ρ.sl ++ θ) ρ.pn ∧ ρ.sl.length = σ.length ∧ t E ρ ∧ Cont K B pa τ θ σ.length E Z
abbrev CS (X : Cx) (s : Stmt) (t : (DS S)) : Prop := PS X s (liftS X.K t)
abbrev CSs (X : Cx) (s : List Stmt) (t : (DS S)) : Prop := PSs X s (liftS X.K t)
theorem ps_mono {X : Cx} {s : Stmt} {t u : TS} (h : PS X s t) (m : ∀ Z σ H, u Z σ H → t Z σ H) : PS X s u := ⟨fun pins s σ H Z I q => h.run pins s σ H Z I (m Z σ H q)⟩
theorem pss_mono {X : Cx} {s : List Stmt} {t u : TS} (h : PSs X s t) (m : ∀ Z σ H, u Z σ H → t Z σ H) : PSs X s u := ⟨fun pins s σ H Z I q => h.run pins s σ H Z I (m Z σ H q)⟩
section
variable {X : Cx} {s : Stmt} {ss a b : List Stmt} {e c : Expr} {t u : (DS S)} {te : (DW S)} {to : (OW S)} {tb : (BW S)} {pos p : Pos} {k : Nat}
def sNil : (DS S) := fun E ρ => E.nx ρ
def sCons (t u : (DS S)) : (DS S) := fun E ρ => t { E with nx := fun ρ1 => u E ρ1 } ρ
theorem css_nil : CSs (S := S) X [] sNil := pss_mono pss_nil fun Z σ H ⟨B, pa, τ, F, ρ, θ, E, R, hl, h, q⟩ => q.nx σ ρ H F h rfl hl R
theorem css_cons (h1 : CS (S := S) X s t) (h2 : CSs (S := S) X ss u) : CSs (S := S) X (s :: ss) (sCons t u) := pss_mono (pss_cons h1 h2) fun Z σ H ⟨B, pa, τ, F, ρ, θ, E, R, hl, h, q⟩ =>
  ⟨B, pa, τ, F, ρ, θ, _, R, hl, h, fun σ1 ρ1 H1 F1 h1 l1 l2 R1 => ⟨B, pa, τ, F1, ρ1, θ, E, R1, by omega, h1, by rw [l1]; exact q⟩, q.bk, q.ct, q.rt, q.ro⟩
theorem css_one (h1 : CS (S := S) X s t) : CSs (S := S) X [s] t := pss_one h1
def dSet (i : Nat) (t : (DW S)) : (DS S) := fun E ρ => t ρ fun r ρ1 => E.nx { ρ1 with sl := ρ1.sl.set i r.sl }
theorem set_step {K : Fg} {i : Nat} {Z : Ends} {σ : L2.St} {H : Hp} (hi : i < σ.length) (h : liftS K (dSet i te) Z σ H) : liftO K (tmpD te) σ H fun x H1 => gName i x σ H1 Z.nx := by
  obtain ⟨B, pa, τ, F, ρ, θ, E, R, hl, h, q⟩ := h
  refine ofE ⟨B, pa, τ, F, ρ, θ, _, R, hl, h, fun r ρ1 v H1 F1 h1 l1 R1 => ?_⟩
  have R2 := R1.move (i := i) (by simp; omega)
  rw [List.set_append_left _ _ hi, List.set_append_left _ _ (by omega)] at R2
  exact q.nx _ _ H1 F1 h1 (by simp) (by simpa using l1) R2
theorem cs_set (i : Nat) {x : Str} {p' : Pos} (hx0 : XO X k) (he : CE (S := S) X e te) (hi : X.N[i]? = some x := by rfl) (hx : Loc X.env.scope x := by first | exact .inl rfl | exact .inr rfl) (hs : swapsWith e (some (.Name x p')) pos.line X.env = pure false := by rfl)
    (hf : X.fn x = true ∨ X.env.scope.names.lookup x = some .local := by first | exact .inl rfl | exact .inr rfl) : CS (S := S) X (.Assign [.Name x p'] e pos) (dSet i te) := by
  refine ⟨fun pins s σ H Z I h => ?_⟩
  exact (ps_set hx0.nd hi hx he hs hf).run pins s σ H Z I (set_step (by rw [I.len]; exact (List.getElem?_eq_some_iff.mp hi).1) h)
theorem cs_setLc (i : Nat) {x : Str} {py : Pos} {tg iter elt : Expr} {ifs : List Expr} {scope : Scope} {it : (IW S)} {g : (GW S)} {tt : (BW S)} {te : (OW S)} {is : List Nat} (own : List (Str × Nat)) (hx0 : XO X k) (hi : CI (S := S) X tg iter it)
    (hg : ∀ (s : Shared) (H : Hp) (C : Addr) (cl : List (Str × Addr)) (fp : List Addr), CG (S := S) (X.blk s H scope (compEnvC scope cl C X.env) fp) tg is g)
    (ht : ∀ (s : Shared) (H : Hp) (C : Addr) (cl : List (Str × Addr)) (fp : List Addr), CTs (S := S) (X.blk s H scope (compEnvC scope cl C X.env) fp) ifs tt)
    (he : ∀ (s : Shared) (H : Hp) (C : Addr) (cl : List (Str × Addr)) (fp : List Addr), CO (S := S) (X.blk s H scope (compEnvC scope cl C X.env) fp) elt te)
    (hxi : X.N[i]? = some x := by rfl) (hyl : X.env.scope.names.lookup x = some .local := by rfl)
    (hsw : swapsWith (.ListComp elt [⟨tg, iter, ifs, 0⟩] scope p) (some (.Name x py)) pos.line X.env = pure true := by exact sw_true rfl rfl rfl (by decide +kernel))
    (ok : blkC X.N X.env.scope scope own = true := by kernel_rfl) (hv : ∀ i ∈ is, i ∈ own.map (·.2) := by decide) (hs : ∀ x, foldedSetIterable iter X.env x = pure x := by intro _; rfl) :
    CS (S := S) X (.Assign [.Name x py] (.ListComp elt [⟨tg, iter, ifs, 0⟩] scope p) pos) (dSet i (dLc it g tt te (own.map (·.2)))) := by
  refine ⟨fun pins s σ H Z I h => ?_⟩
  exact (ps_setLc hx0.calm hx0.nd hxi hyl hsw hi (blkOk_by ok) hg ht he hs).run pins s σ H Z I (lc_step hv (set_step (by rw [I.len]; exact (List.getElem?_eq_some_iff.mp hxi).1) h))
def dRet (t : (DW S)) : (DS S) := fun E ρ => t ρ fun r ρ1 => E.rt r.d ρ1.pn
theorem cs_ret (he : CE (S := S) X e te) : CS (S := S) X (.Return (some e) pos) (dRet te) := ps_mono (ps_ret he) fun Z σ H ⟨B, pa, τ, F, ρ, θ, E, R, hl, h, q⟩ =>
  ofE ⟨B, pa, τ, F, ρ, θ, _, R, hl, h, fun r ρ1 v H1 F1 h1 l1 R1 => by
    obtain ⟨F2, _, R2⟩ := freezeLast R1
    exact q.rt _ _ _ _ v H1 F2 h1 R2⟩
def dRetN : (DS S) := fun E ρ => E.rt .none ρ.pn
def sPass : (DS S) := fun E ρ => E.nx ρ
def sCont : (DS S) := fun E ρ => E.ct ρ
def sBreak : (DS S) := fun E ρ => E.bk ρ
def dExpr (t : (DW S)) : (DS S) := fun E ρ => t ρ fun _ ρ1 => E.nx ρ1
def dIfS (c : (BW S)) (t u : (DS S)) : (DS S) := fun E ρ => c ρ fun b ρ1 => if b = true then t E ρ1 else u E ρ1
theorem cs_if (hc : CT (S := S) X c tb) (ha : CSs (S := S) X a t) (hb : CSs (S := S) X b u) : CS (S := S) X (.If c a b pos) (dIfS tb t u) := ps_mono (ps_if hc ha hb) fun Z σ H ⟨B, pa, τ, F, ρ, θ, E, R, hl, h, q⟩ =>
  ⟨B, pa, τ, F, ρ, θ, _, R, hl, h, fun b ρ1 H1 F1 h1 l1 R1 => by
    cases b with
    | true => exact iteT ⟨B, pa, τ, F1, ρ1, θ, E, R1, l1, h1, q⟩
    | false => exact iteF ⟨B, pa, τ, F1, ρ1, θ, E, R1, l1, h1, q⟩⟩
def dSetT (g : (GW S)) (t : (DW S)) : (DS S) := fun E ρ => t ρ fun r ρ1 => g r.d ρ1 E.nx
def Tk.slot? : Tk → Bool
  | .slot _ => true
  | .fb _ => true
  | _ => false
def forW (g : (GW S)) (b : (DS S)) (E : (DE S)) : List D → (En S) → Prop
  | [], ρ => E.nx ρ
  | d :: r, ρ => g d ρ fun ρ1 => b { nx := forW g b E r, rt := E.rt, bk := E.nx, ct := forW g b E r } ρ1
def dFor (it : (IW S)) (g : (GW S)) (b : (DS S)) : (DS S) := fun E ρ => it ρ fun c ρ1 => (c.ks.any Tk.slot? = false) ∧ gets (c.items ρ1) fun items => items.length ≤ sizeLine → forW g b E items ρ1
theorem rds_fix {ρ ρ' : En S} : ∀ {ks : List Tk}, ks.any Tk.slot? = false → rds ρ ks = rds ρ' ks
  | [], _ => rfl
  | .tmp r :: ks, h => by rw [rds_cons, rds_cons, rds_fix (ρ := ρ) (ρ' := ρ') (ks := ks) (by simpa [Tk.slot?] using h)]; rfl
  | .bt r :: ks, h => by rw [rds_cons, rds_cons, rds_fix (ρ := ρ) (ρ' := ρ') (ks := ks) (by simpa [Tk.slot?] using h)]; rfl
  | .slot r :: ks, h => by simp [Tk.slot?] at h
  | .fb r :: ks, h => by simp [Tk.slot?] at h
theorem noslot {ks : List Tk} (h : ks.any Tk.slot? = false) {j i : Nat} (e : ks[j]? = some (.slot i)) : False := by
  have := List.any_eq_false.mp h (.slot i) (List.mem_of_getElem? e)
  exact this rfl
theorem cs_for {tg iter : Expr} {it : (IW S)} {g : (GW S)} {is : List Nat} {body : List Stmt} (hx : XO X k) (hi : CI (S := S) X tg iter it) (hg : CG (S := S) X tg is g) (hb : CSs (S := S) X body t) (hs : ∀ x, foldedSetIterable iter X.env x = pure x := by intro _; rfl) : CS (S := S) X (.For tg iter body [] pos) (dFor it g t) :=
  ps_mono (ps_for hx.pass hx.calm hi hg hb hs) fun Z σ0 H ⟨B, pa, τ, F, ρ, θ, E, R, hl, h, q⟩ => by
    refine ⟨B, pa, τ, F, ρ, θ, _, R, hl, h, fun c ρ1 us H1 F1 J ⟨hns, h1⟩ hl1 hk R1 s1 src => ?_⟩
    obtain ⟨items, ei, h1⟩ := gets_elim h1
    have hτ : τ.length = θ.length := by have := (R1.pops (by simp [hk])).len; simp at this; omega
    have R1' : Rel X.K B pa (σ0 ++ (τ ++ us.map some)) H1 F1 (ρ1.sl ++ (θ ++ c.ks.map Tk.sl)) ρ1.pn := by simpa only [List.append_assoc] using R1
    obtain ⟨ds0, er, ef⟩ := Option.bind_eq_some_iff.mp ei
    have nos : ∀ (σ : L2.St) (j : Nat) i v, c.ks[j]? = some (.slot i) → us[j]? = some v → σ[i]? = some (some v) := fun σ j i v e _ => (noslot hns e).elim
    have rd0 := reads_all (σ := σ0) hl1 c.ks us τ θ ds0 hτ hk R1' (nos _) er
    obtain ⟨_, hsz⟩ := src.stop H1 F1 ds0 items R1.sz (Le.refl _) R1.fh rd0 ef
    have h1 := h1 hsz
    refine ⟨fun i m σ Hc => ∃ (ρc : (En S)) (Fc : Hp), Rel X.K ⟨B.H0, F1, B.M⟩ pa (σ ++ (τ ++ us.map some)) Hc Fc (ρc.sl ++ (θ ++ c.ks.map Tk.sl)) ρc.pn ∧ σ.length = σ0.length ∧ ρc.sl.length = σ0.length ∧ i ≤ items.length ∧ m = items.length - i ∧ forW g t E (items.drop i) ρc,
      ⟨items.length, ρ1, F1, R1'.focus, rfl, hl1, Nat.zero_le _, rfl, h1⟩, ?_⟩
    rintro i m σ Hc ⟨ρc, Fc, Rc, l1, l2, hi, rfl, hq⟩
    have rd := reads_all (σ := σ) (by omega) c.ks us τ θ ds0 hτ hk Rc (nos _) (by rw [← er]; exact rds_fix hns)
    have drop : ∀ {σ : L2.St} {ρ : (En S)} {H F : Hp}, Rel X.K ⟨B.H0, F1, B.M⟩ pa (σ ++ (τ ++ us.map some)) H F (ρ.sl ++ (θ ++ c.ks.map Tk.sl)) ρ.pn → Rel X.K B pa (σ ++ τ) H F (ρ.sl ++ θ) ρ.pn := fun R => by
      have R := R.rebase R1'
      rw [← List.append_assoc, ← List.append_assoc] at R
      exact R.pops (by simp [hk])
    by_cases hlt : i < items.length
    · have ed : items.drop i = items[i] :: items.drop (i + 1) := List.drop_eq_getElem_cons hlt
      rw [ed] at hq
      obtain ⟨go, yl⟩ := src.step Hc Fc ds0 items i items[i] Rc.sz Rc.f0 Rc.fh rd ef (List.getElem?_eq_getElem hlt)
      refine .inr ⟨go, fun σ' H' => ∃ (ρc : (En S)) (Fc : Hp), Rel X.K ⟨B.H0, F1, B.M⟩ pa (σ' ++ (τ ++ us.map some)) H' Fc (ρc.sl ++ (θ ++ c.ks.map Tk.sl)) ρc.pn ∧ σ'.length = σ0.length ∧ ρc.sl.length = σ0.length ∧ forW g t E (items.drop (i + 1)) ρc, fun σ' H' ⟨ρc, Fc, a1, a2, a3, a4⟩ => ⟨items.length - (i + 1), by omega, ρc, Fc, a1, a2, a3, hlt, rfl, a4⟩, fun x H' hy => ?_⟩
      obtain ⟨F', hF', R', dx⟩ := Rc.yl (yl x H' hy)
      refine ⟨⟨B.H0, F1, B.M⟩, pa, τ ++ us.map some, F', ρc, θ ++ c.ks.map Tk.sl, _, items[i], R', by omega, dx, hq, fun ρ2 σ2 h2 l3 l4 _ R2 => ?_⟩
      refine ⟨⟨B.H0, F1, B.M⟩, pa, τ ++ us.map some, F', ρ2, θ ++ c.ks.map Tk.sl, _, R2, by omega, h2, ?_⟩
      have e0 : σ2.length = σ0.length := by omega
      rw [e0]
      exact ⟨fun σ' ρ' H2 F2 a b c R3 => ⟨ρ', F2, R3, b, c, a⟩, fun σ' ρ' H2 F2 a b c R3 => q.nx σ' ρ' H2 F2 a b c (drop R3), fun σ' ρ' H2 F2 a b c R3 => ⟨ρ', F2, R3, b, c, a⟩, fun zs ws d pn v H' F' h R => q.rt zs ws d pn v H' F' h (R.rebase R1'), fun _ _ _ _ _ _ _ z => z.elim⟩
    · have e : i = items.length := by omega
      subst e
      rw [List.drop_length] at hq
      exact .inl ⟨(src.stop Hc Fc ds0 items Rc.sz Rc.f0 Rc.fh rd ef).1, q.nx σ ρc Hc Fc hq l1 l2 (drop Rc)⟩
def Tk.slot1? : Tk → Bool
  | .slot _ => true
  | _ => false
def forL (c : Sc) (items : List D) (g : (GW S)) (b : (DS S)) (E : (DE S)) : List D → (En S) → Prop
  | [], ρ => c.items ρ = some items ∧ E.nx ρ
  | d :: r, ρ => c.items ρ = some items ∧ g d ρ fun ρ1 => b { nx := forL c items g b E r, rt := E.rt, bk := E.nx, ct := forL c items g b E r } ρ1
def dForL (it : (IW S)) (g : (GW S)) (b : (DS S)) : (DS S) := fun E ρ => it ρ fun c ρ1 => (c.ks.any Tk.slot1? = false) ∧ gets (c.items ρ1) fun items => items.length ≤ sizeLine → forL c items g b E items ρ1
end
end Dk
namespace Dk
open PySem PySem.Spec PyProof.Rows L2
variable {S : Type} [StK S]
section
variable {X : Cx} {e a b c : Expr} {es : List Expr} {te : (DW S)} {ta : (AW S)} {pos p p2 : Pos} {k : Nat} {t u : (OW S)}
def tmps : List Tk → Option (List Rs)
  | [] => some []
  | .tmp r :: ks => (tmps ks).map (r :: ·)
  | _ :: _ => none
def dPar2 (i j : Nat) (ta : (AW S)) : (DS S) := fun E ρ => ta ρ fun ks ρ1 => gets (tmps ks) fun rs => match rs with
  | [r1, r2] => E.nx { ρ1 with sl := (ρ1.sl.set i r1.sl).set j r2.sl }
  | _ => False
def dPar3 (i j l : Nat) (ta : (AW S)) : (DS S) := fun E ρ => ta ρ fun ks ρ1 => gets (tmps ks) fun rs => match rs with
  | [r1, r2, r3] => E.nx { ρ1 with sl := ((ρ1.sl.set i r1.sl).set j r2.sl).set l r3.sl }
  | _ => False
def dAug (i : Nat) (f : Int → Int → Int) (t : (DW S)) : (DS S) := fun E ρ => gets (((ρ.sl[i]?).bind Sl.rd).bind D.int?) fun a => t ρ fun r ρ1 => gets (D.int? r.d) fun b => E.nx { ρ1 with sl := ρ1.sl.set i (.val (.int (f a b))) }
end
end Dk
namespace Dk
open PySem PySem.Spec PyProof.Rows L2
variable {S : Type} [StK S]
def own? (ρ : List Sl) (i : Nat) : Option (List D) := match ρ[i]? with
  | some (.own xs) => some xs
  | _ => none
theorem own?_some {ρ : List Sl} {i : Nat} {xs : List D} (h : own? ρ i = some xs) : ρ[i]? = some (.own xs) := by
  unfold own? at h
  split at h
  · cases h; assumption
  · cases h
section
variable {X : Cx} {e a b c : Expr} {es : List Expr} {te : (DW S)} {ta : (AW S)} {pos p p1 p2 : Pos} {k : Nat} {t u : (OW S)}
theorem own_at {K : Fg} {B : Bs} {pa : Option Addr} {σ : L2.St} {τ : List (Option V)} {H F : Hp} {ρ θ : List Sl} {pn : S} {i : Nat} {xs : List D} (R : Rel K B pa (σ ++ τ) H F (ρ ++ θ) pn) (hl : ρ.length = σ.length) (h : own? ρ i = some xs) :
    ∃ a vs, σ[i]? = some (some (.ref a)) ∧ (σ ++ τ)[i]? = some (some (.ref a)) ∧ (ρ ++ θ)[i]? = some (.own xs) ∧ H a = some (.lst vs) ∧ DRs K F xs vs ∧ i < σ.length := by
  have h := own?_some h
  have hi := (List.getElem?_eq_some_iff.mp h).1
  have hw : (ρ ++ θ)[i]? = some (.own xs) := by rw [List.getElem?_append_left hi]; exact h
  obtain ⟨o, h1, a, vs, e, h2, h3, _⟩ := R.sl i _ hw
  subst e
  exact ⟨a, vs, left_get (by omega) h1, h1, hw, h2, h3, by omega⟩
theorem Rel.writeS {K : Fg} {B : Bs} {pa : Option Addr} {σ : L2.St} {τ : List (Option V)} {H F : Hp} {ρ θ : List Sl} {pn : S} {i : Nat} {xs ys : List D} {a : Addr} {vs : List V} (R : Rel K B pa (σ ++ τ) H F (ρ ++ θ) pn) (hw : (ρ ++ θ)[i]? = some (.own xs)) (hz : (σ ++ τ)[i]? = some (some (.ref a)))
    (hi : i < ρ.length) (h : DRs K F ys vs) (hs : vs.length ≤ sizeLine) : Rel K B pa (σ ++ τ) (upd H a (.lst vs)) F (ρ.set i (.own ys) ++ θ) pn := by
  have R1 := R.write hw hz h hs
  rwa [List.set_append_left _ _ hi] at R1
def dAppend (i : Nat) (t : (OW S)) : (DW S) := fun ρ P => (own? ρ.sl i).isSome = true ∧ t ρ fun k ρ1 => gets k.valD fun d => gets (own? ρ1.sl i) fun xs => xs.length < sizeLine ∧ P (.val .none) { ρ1 with sl := ρ1.sl.set i (.own (xs ++ [d])) }
def dPop (i : Nat) : (DW S) := fun ρ P => gets (own? ρ.sl i) fun xs => gets (xs[xs.length - 1]?) fun d => P (.val d) { ρ with sl := ρ.sl.set i (.own xs.dropLast) }
theorem DRs.dropLast {K : Fg} {F : Hp} {ds : List D} {vs : List V} (h : DRs K F ds vs) : DRs K F ds.dropLast vs.dropLast := by
  rw [List.dropLast_eq_take, List.dropLast_eq_take, h.len]
  exact h.take _
def dSetIx (i : Nat) (ti : (OW S)) (te : (DW S)) : (DS S) := fun E ρ => te ρ fun r ρ1 => (own? ρ1.sl i).isSome = true ∧ ti ρ1 fun k ρ2 => gets ((k.rd ρ2).bind D.int?) fun z => gets (own? ρ2.sl i) fun xs => gets (ixN xs.length z) fun j => E.nx { ρ2 with sl := ρ2.sl.set i (.own (xs.set j r.d)) }
theorem cs_setIx (i : Nat) {x : Str} {b : Expr} (hb : CO (S := S) X b u) (he : CE (S := S) X e te) (hN : X.N[i]? = some x := by rfl) (hv : Vis X.env.scope x := by first | exact Or.inl rfl | exact Or.inr (Or.inl rfl) | exact Or.inr (Or.inr rfl)) (hd : (x == ("__debug__" : Str)) = false := by decide) (hcd : (x == ("__classdict__" : Str)) = false := by decide)
    (hA : ∀ v, assign (.Subscript (.Name x p1) b p2) X.env v = (do
      let ov ← holding [v] (eval (.Name x p1) X.env)
      let iv ← holding [v, ov] (eval b X.env)
      standAt p2
      holding [v, ov, iv] (setItem ov iv v)
      release [v, ov, iv] []) := by intro _; rfl)
    (hs : swapsWithSole [.Subscript (.Name x p1) b p2] e pos.line X.env = pure false := by rfl) (hw : swappedStores [.Subscript (.Name x p1) b p2] e X.env = pure none := by rfl) (hq : (assignEach [.Subscript (.Name x p1) b p2] X.env).map (·.2) = [assign (.Subscript (.Name x p1) b p2) X.env] := by rfl) :
    CS (S := S) X (.Assign [.Subscript (.Name x p1) b p2] e pos) (dSetIx i u te) :=
  ps_mono (ps_asg he (pg_sub (pe_var hN hv hd hcd) hb set_list hA) hs hw hq) fun Z σ H ⟨B, pa, τ, F, ρ, θ, E, R, hl, h, q⟩ =>
    ofE ⟨B, pa, τ, F, ρ, θ, _, R, hl, h, fun r ρ1 v H1 F1 h1 l1 R1 => by
      obtain ⟨F2, _, R2⟩ := freezeLast R1
      obtain ⟨h0, h1⟩ := h1
      obtain ⟨xs0, e0⟩ := Option.isSome_iff_exists.mp h0
      obtain ⟨a0, vs0, s0, _, _, s1, _⟩ := own_at R2.pop l1 e0
      refine ⟨.ref a0, s0, B, pa, τ ++ [some v], F2, ρ1, θ ++ [.val r.d], _, by simpa only [List.append_assoc] using R2, l1, h1, fun k ρ2 v2 H2 F3 h2 l2 R3 sk => ?_⟩
      obtain ⟨z, ez, h2⟩ := gets_elim h2
      obtain ⟨d0, f1, f2⟩ := Option.bind_eq_some_iff.mp ez
      have f3 := D.int?_some f2
      subst f3
      obtain ⟨xs, ex, h2⟩ := gets_elim h2
      obtain ⟨j, ej, h2⟩ := gets_elim h2
      have R4 : Rel X.K B pa (σ ++ τ ++ [some v] ++ [some v2]) H2 F3 (ρ2.sl ++ θ ++ [.val r.d] ++ [k.sl]) ρ2.pn := by simpa only [List.append_assoc] using R3
      have hτ : τ.length = θ.length := by have := R4.pop.pop.len; simp at this; omega
      have R5 : Rel X.K B pa (σ ++ (τ ++ [some v] ++ [some v2])) H2 F3 (ρ2.sl ++ (θ ++ [.val r.d] ++ [k.sl])) ρ2.pn := by simpa only [List.append_assoc] using R3
      have rd := read_at R5 l2 (τ ++ [some v]).length (app_last _ _) (getN (by simp [hτ])) sk f1
      obtain ⟨⟨v', e', hd⟩, _⟩ := Rel.last (s := .val r.d) R4.pop
      cases e'
      obtain ⟨a1, vs, q0, q1, q2, q3, q4, q5⟩ := own_at R4.pop.pop l2 ex
      rw [s0] at q0
      cases q0
      refine ⟨a0, vs, z, j, rfl, rd.int, q3, by rw [q4.len]; exact ej, ?_⟩
      have R6 := R4.pop.pop.writeS (ys := xs.set j r.d) (vs := vs.set j v) q2 q1 (by omega) (q4.set j hd) (by have := R4.sz.l q3; simpa using this)
      exact q.nx σ { ρ2 with sl := ρ2.sl.set i (.own (xs.set j r.d)) } _ F3 h2 rfl (by simpa using l2) R6⟩
end
end Dk
namespace Dk
open PySem PySem.Spec PyProof.Rows L2
variable {S : Type} [StK S]
structure FnG (P : Program) (w : World) (K : Fg) (mg : Str → Option Value) (base : Heap) (CX : CXT) (k : Nat) (f : Addr) (fd : FuncData) (ps : List Str) (sp : Sp) : Prop where
  len : ∀ vs H Q E, sp vs H Q E → vs.length = ps.length
  run : ∀ (A : Around) (outer : List Env) (s : Shared) (H : Hp) (args : Args) (us : List Value) (vs : List V) (Q : VK) (E : XK), Room k A → A.guards = some [] → Env0 P w K mg base A outer s H → BindsTo s fd args (ps.zip us) → Vals vs us → sp vs H Q E →
    codeAny (model P w) A (.call (.ref f) args) (CR CX outer P w H s Q E) s
theorem FnG.mono {P : Program} {w : World} {K : Fg} {mg : Str → Option Value} {base : Heap} {CX : CXT} {j k : Nat} {f : Addr} {fd : FuncData} {ps : List Str} {sp : Sp} (F : FnG P w K mg base CX j f fd ps sp) (h : j ≤ k) :
    FnG P w K mg base CX k f fd ps sp := ⟨F.len, fun A outer s H args us vs Q E hr => F.run A outer s H args us vs Q E (hr.mono h)⟩
theorem FnG.of {P : Program} {w : World} {K : Fg} {mg : Str → Option Value} {base : Heap} {CX : CXT} {k : Nat} {f : Addr} {fd : FuncData} {ps : List Str} {sp : Sp} (F : FnOk P w K mg base CX k f fd ps sp) : FnG P w K mg base CX k f fd ps sp :=
  ⟨F.len, fun A outer s H args us vs Q E hr _ => F.run A outer s H args us vs Q E hr⟩
section
variable {X : Cx} {CX : CXT} {k : Nat} {f : Addr} {fd : FuncData} {ps : List Str} {sp : Sp} {dvs : List V} {ds : List Value} {E : XK} {x : Str} {p pos : Pos} {e : Expr} {es : List Expr} {t : TA}
theorem run_fng {pins : List (Addr × Obj)} {σ : L2.St} {H : Hp} {s : Shared} {Q : VK} {us : List Value} {vs : List V} (F : FnG X.prog X.w X.K X.mg X.base CX k f fd ps sp) (hr : Room k X.A) (hg : X.A.guards = some []) (hb : Binds X.K fd ps ds) (hd : Vals dvs ds) (hx : Passes CX X E)
    (I : L2.Inv X pins σ H s) (r : Vals vs us) (h : sp (vs ++ dvs) H Q E) : wpAny (model X.prog X.w) X.A (call (.ref f) us) (EP X pins σ Q) X.xe s := by
  have r2 : Vals (vs ++ dvs) (us ++ ds) := r.append hd
  have hl : (us ++ ds).length = ps.length := by rw [← r2.length]; exact F.len _ _ _ _ h
  refine wpAny_call (codeAny_mono (F.run X.A X.stack s H ⟨us, []⟩ (us ++ ds) (vs ++ dvs) Q E hr hg I.env0 (hb s us I.kIn hl) r2 h) fun r s' hq => ?_)
  cases r with
  | error e => exact hx pins σ H s e s' I hq
  | ok fl =>
    cases fl with
    | ret u => exact I.after hq
    | next => exact False.elim hq
    | brk => exact False.elim hq
    | cont => exact False.elim hq
theorem pe_callG (F : FnG X.prog X.w X.K X.mg X.base CX k f fd ps sp) (hr : Room k X.A) (hgd : X.A.guards = some []) (hg : Gl X x) (hm : X.mg x = some (.ref f)) (hk : PySem.W.keepIn X.K (.ref f) = true) (hb : Binds X.K fd ps ds) (hd : Vals dvs ds) (hx : Passes CX X E)
    (ha : PA X (e :: es) t) (hdb : (x == ("__debug__" : Str)) = false := by decide) (he : starEach (e :: es) X.env = (false, eval e X.env) :: starEach es X.env := by rfl) (hpl : (backTo pos (starEach es X.env)).any (·.1) = false := by rfl) :
    PE X (.Call (.Name x p) (e :: es) [] pos) (tCall sp dvs E t) := by
  refine ⟨fun pins s σ H Q I h => ?_⟩
  refine wpAny_Call_Name_kw (ld_glob I hg hm ?_ hdb)
  refine PySem.W.callWith_K (h₀ := X.base) I.ok.mod.kin hk (thn (ha.run pos pins s σ H _ I h) fun us s1 ⟨vs, H1, I1, r, q⟩ => ⟨I1.kIn, ?_⟩) he hpl
  exact run_fng F hr hgd hb hd hx I1 r q
end
theorem fng_of {CX : CXT} {P : Program} {w : World} {K : Fg} {mg : Str → Option Value} {base : Heap} {k : Nat} {f : Addr} {name qual : Str} {params : Arguments} {body : List Stmt} {scope : Scope} {dV kV doc pm cdv ct oc : Value} {an od : Option Addr}
    {osl : Array (Option Value)} {N ps : List Str} {sp : Sp} (lk : K.lookup f = some ⟨oc, od, .func (PySem.W.fnOf name qual params body scope dV kV doc pm an cdv ct), osl⟩) (hcd : PySem.W.codeIn K cdv qual = true) (S : FnScope N ps scope)
    (len : ∀ vs H Q E, sp vs H Q E → vs.length = ps.length)
    (hbody : ∀ (A : Around) (outer : List Env) (s : Shared) (H : Hp) (vs : List V) (Q : VK) (E : XK), Room k (A.deeper (envOfC qual scope s.heap.objs.size f cdv)) → (A.deeper (envOfC qual scope s.heap.objs.size f cdv)).guards = some [] → sp vs H Q E →
      ∃ t, PSs (cxOf CX P w K mg base N qual scope f cdv A outer s H E) body t ∧ t { nx := fun _ H' => Q .non H', rt := Q } (L2.start N vs) H) :
    FnG P w K mg base CX (k + 1) f (PySem.W.fnOf name qual params body scope dV kV doc pm an cdv ct) ps sp := by
  refine ⟨len, fun A outer s H args us vs Q E hr hgd e0 hb r hsp => ?_⟩
  have hl := len _ _ _ _ hsp
  have KX : K.In s.heap := e0.mod.kin.keeps fun b o e => (e0.bs b o e).1
  have lim : s.heap.NoLimit := e0.mod.nolimit.keeps fun b o e => (e0.bs b o e).1
  have hkind : ∀ y ∈ ps.zip us, scope.names.lookup y.1 = some .local ∨ (scope.names.lookup y.1 = some .cell ∧ ((cellsFrom (s.heap.objs.size + 1) scope.names []).lookup y.1).isSome = true) := fun ⟨n, v⟩ hy => by
    rcases S.par n (List.of_mem_zip hy).1 with q | q
    · exact .inl q
    · exact .inr ⟨q, PySem.W.cellsFrom_some _ _ _ (.inl q)⟩
  refine codeAny_call_function hr.depth (KX _ _ lk) rfl S.co S.gen rfl (PySem.W.codeRec_of KX hcd) (hb _ _ _ _ ?_)
  refine wpAny_newFunctionEnv_cells S.kind hkind fun env he s1 x => ?_
  subst he
  refine ⟨lim.keeps x.toInCall.keep, codeAny_func ?_⟩
  obtain ⟨t, ht, hq⟩ := hbody A outer s H vs Q E (hr.deeper _) hgd hsp
  have I : L2.Inv (cxOf CX P w K mg base N qual scope f cdv A outer s H E) [] (L2.start N vs) H s1 := inv_start S hr.hd e0 hl r x
  refine wpAny_mono (ht.run [] s1 (L2.start N vs) H _ I hq) (fun fl s' hs => ?_) fun e s' hs => hs
  have fin : ∀ {σ' : L2.St} {H' : Hp} {v : V} {u : Value}, L2.Inv (cxOf CX P w K mg base N qual scope f cdv A outer s H E) [] σ' H' s' → RelV v u → Q v H' → L2.CE outer P w H s Q u s' :=
    fun {σ' H' v u} J rv q => ⟨v, H', J.os, J.bare, J.base, J.hok, rv, q⟩
  cases fl with
  | ret u =>
    obtain ⟨v, σ', H', J, rv, q⟩ := hs
    exact fin J rv q
  | next =>
    obtain ⟨σ', H', J, q⟩ := hs
    exact fin (v := V.non) (u := Value.none) J rfl q
  | brk =>
    obtain ⟨_, _, _, q⟩ := hs
    exact False.elim q
  | cont =>
    obtain ⟨_, _, _, q⟩ := hs
    exact False.elim q
inductive Arg where
  | val (d : D) | bor (xs : List D) | pen | scr (ns : List Int) | ref (a : Addr)
abbrev DSp (S : Type := Option Pen) := List Arg → S → (D → S → Prop) → Prop
def ArgR (K : Fg) (H F : Hp) (pa : Option Addr) (T : Addr → Prop) : Arg → V → Prop
  | .val d, v => DR K F d v
  | .bor xs, v => ∃ a vs, v = .ref a ∧ H a = some (.lst vs) ∧ DRs K F xs vs ∧ ¬ T a
  | .pen, v => ∃ a, pa = some a ∧ v = .ref a
  | .scr ns, v => ∃ a, v = .ref a ∧ ScrR K H T a ns
  | .ref a, v => v = .ref a
def ArgsR (K : Fg) (H F : Hp) (pa : Option Addr) (T : Addr → Prop) : List Arg → List V → Prop
  | [], vs => vs = []
  | a :: as, vs => ∃ v r, vs = v :: r ∧ ArgR K H F pa T a v ∧ ArgsR K H F pa T as r
theorem ArgsR.len {K : Fg} {H F : Hp} {pa : Option Addr} {T : Addr → Prop} : ∀ {as : List Arg} {vs : List V}, ArgsR K H F pa T as vs → vs.length = as.length
  | [], vs, h => by rw [show vs = [] from h]; rfl
  | a :: as, vs, h => by
    obtain ⟨v, r, rfl, _, h⟩ := h
    rw [List.length_cons, List.length_cons, ArgsR.len h]
def spOf (K : Fg) (n : Nat) (dsp : DSp S) : Sp := fun vs H Q _ => ∃ F pa T as s P, Szs H ∧ Le F H ∧ ArgsR K H F pa T as vs ∧ StK.R K pa H F s T ∧ (∀ b, T b → H b ≠ none ∧ F b = none) ∧ as.length = n ∧ dsp as s P ∧
  ∀ d s' v H' F' T', P d s' → Szs H' → Le F F' → Le F' H' → (∀ b o, F' b = some o → F b = some o ∨ H b = none ∨ T b) → (∀ b o, H b = some o → ¬ T b → H' b = some o) → StK.R K pa H' F' s' T' → (∀ b, T' b → (T b ∨ H b = none) ∧ H' b ≠ none ∧ F' b = none) → (∀ b, T b → H' b ≠ none) → DR K F' d v → Q v H'
abbrev FnD (P : Program) (w : World) (K : Fg) (mg : Str → Option Value) (base : Heap) (k : Nat) (f : Addr) (fd : FuncData) (ps : List Str) (dsp : DSp S) : Prop := FnG P w K mg base CX0 k f fd ps (spOf K ps.length dsp)
theorem FnD.none {P : Program} {w : World} {K : Fg} {mg : Str → Option Value} {base : Heap} {k : Nat} {f : Addr} {fd : FuncData} {ps : List Str} {dsp : DSp S} (h : ∀ as pn P, ¬ dsp as pn P) : FnD P w K mg base k f fd ps dsp :=
  ⟨fun vs H Q E ⟨F, pa, T, as, pn, P, _, _, _, _, _, _, q, _⟩ => (h _ _ _ q).elim, fun A outer s H args us vs Q E _ _ _ _ _ ⟨F, pa, T, as, pn, P, _, _, _, _, _, _, q, _⟩ => (h _ _ _ q).elim⟩
def Arg.sl : Arg → Sl
  | .val d => .val d
  | .bor xs => .bor xs
  | .pen => .pen
  | .scr ns => .scr ns
  | .ref a => .ref a
def startD (n : Nat) (as : List Arg) : List Sl := as.map Arg.sl ++ List.replicate (n - as.length) .un
theorem argR_sl {K : Fg} {H F : Hp} {pa : Option Addr} {T : Addr → Prop} {a : Arg} {v : V} (h : ArgR K H F pa T a v) : SlotR K ⟨H, F, T⟩ pa H F a.sl (some v) := by
  cases a with
  | val d => exact ⟨v, rfl, h⟩
  | bor xs =>
    obtain ⟨a, vs, rfl, h1, h2, h3⟩ := h
    exact ⟨a, vs, rfl, h1, h2, h3⟩
  | pen =>
    obtain ⟨a, h1, rfl⟩ := h
    exact ⟨a, h1, rfl⟩
  | scr ns =>
    obtain ⟨a, rfl, h1⟩ := h
    exact ⟨a, rfl, h1⟩
  | ref a =>
    have h : v = .ref a := h
    subst h
    exact rfl
theorem ArgsR.get {K : Fg} {H F : Hp} {pa : Option Addr} {T : Addr → Prop} : ∀ {as : List Arg} {vs : List V} {i : Nat} {a : Arg}, ArgsR K H F pa T as vs → as[i]? = some a → ∃ v, vs[i]? = some v ∧ ArgR K H F pa T a v
  | [], vs, i, a, _, e => by simp at e
  | b :: as, vs, 0, a, h, e => by
    obtain ⟨v, r, rfl, h1, _⟩ := h
    simp at e
    subst e
    exact ⟨v, rfl, h1⟩
  | b :: as, vs, i + 1, a, h, e => by
    obtain ⟨v, r, rfl, _, h2⟩ := h
    exact ArgsR.get (i := i) h2 (by simpa using e)
theorem rel_startT {K : Fg} {H F : Hp} {pa : Option Addr} {T : Addr → Prop} {as : List Arg} {vs : List V} {pn : S} {N : List Str} (hz : Szs H) (hF : Le F H) (h : ArgsR K H F pa T as vs) (hp : StK.R K pa H F pn T) (hpl : ∀ b, T b → H b ≠ none ∧ F b = none) (ht : ∀ r, StK.tag pn = some r → TagOk r ⟨H, F, T⟩ pa F) : Rel K ⟨H, F, T⟩ pa (L2.start N vs) H F (startD N.length as) pn := by
  have hl := h.len
  have noown : ∀ (i : Nat) (xs : List D), (startD N.length as)[i]? ≠ some (.own xs) := fun i xs e1 => by
    unfold startD at e1
    by_cases hi : i < as.length
    · rw [List.getElem?_append_left (by simpa using hi), List.getElem?_map] at e1
      obtain ⟨a, _, h2⟩ := Option.map_eq_some_iff.mp e1
      cases a <;> cases h2
    · rw [List.getElem?_append_right (by simp; omega), List.getElem?_replicate] at e1
      split at e1 <;> cases e1
  refine ⟨by simp [L2.start, startD, hl], hF, fun b o e _ => e, Le.refl _, fun b o e => .inl e, fun i s e => ?_, fun i j xs ys a e1 _ _ _ => absurd e1 (noown i xs), ⟨T, hp, fun b hb => (hpl b hb).1, fun b hb => (hpl b hb).2, fun b hb => .inr hb, fun i xs a e1 _ => absurd e1 (noown i xs)⟩, fun b hb => (hpl b hb).1, hz, ht⟩
  unfold startD at e
  by_cases hi : i < as.length
  · rw [List.getElem?_append_left (by simpa using hi), List.getElem?_map] at e
    obtain ⟨a, h1, rfl⟩ := Option.map_eq_some_iff.mp e
    obtain ⟨v, h2, h3⟩ := h.get h1
    refine ⟨some v, ?_, argR_sl h3⟩
    unfold L2.start
    rw [List.getElem?_append_left (by simp; omega), List.getElem?_map, h2]
    rfl
  · rw [List.getElem?_append_right (by simp; omega), List.getElem?_replicate] at e
    split at e
    · cases e
      rename_i hlt
      refine ⟨none, ?_, trivial⟩
      unfold L2.start
      rw [List.getElem?_append_right (by simp; omega), List.getElem?_replicate, if_pos (by simp at hlt ⊢; omega)]
    · cases e
theorem rel_start [NoTag S] {K : Fg} {H F : Hp} {pa : Option Addr} {T : Addr → Prop} {as : List Arg} {vs : List V} {pn : S} {N : List Str} (hz : Szs H) (hF : Le F H) (h : ArgsR K H F pa T as vs) (hp : StK.R K pa H F pn T) (hpl : ∀ b, T b → H b ≠ none ∧ F b = none) : Rel K ⟨H, F, T⟩ pa (L2.start N vs) H F (startD N.length as) pn :=
  rel_startT hz hF h hp hpl fun r e => by rw [NoTag.no] at e; cases e
abbrev cx0 (P : Program) (w : World) (K : Fg) (mg : Str → Option Value) (base : Heap) (N : List Str) (qual : Str) (scope : Scope) (f : Addr) (cd : Value) (A : Around) (outer : List Env) (s : Shared) (H : Hp) (E : XK) : Cx := (cxOf CX0 P w K mg base N qual scope f cd A outer s H E).nox
theorem rel_end {K : Fg} {H F : Hp} {pa : Option Addr} {T : Addr → Prop} {P : D → S → Prop} {Q : VK} {zs : List (Option V)} {ws : List Sl} {d : D} {pn : S} {v : V} {H' F' : Hp}
    (q : ∀ d s' v H' F' T', P d s' → Szs H' → Le F F' → Le F' H' → (∀ b o, F' b = some o → F b = some o ∨ H b = none ∨ T b) → (∀ b o, H b = some o → ¬ T b → H' b = some o) → StK.R K pa H' F' s' T' → (∀ b, T' b → (T b ∨ H b = none) ∧ H' b ≠ none ∧ F' b = none) → (∀ b, T b → H' b ≠ none) → DR K F' d v → Q v H')
    (h : P d pn) (R : Rel K ⟨H, F, T⟩ pa (zs ++ [some v]) H' F' (ws ++ [.val d]) pn) : Q v H' := by
  obtain ⟨⟨v', e', hd⟩, _⟩ := Rel.last (s := .val d) R
  cases e'
  obtain ⟨T', t⟩ := R.st
  exact q d pn v H' F' T' h R.sz R.f0 R.fh R.fr R.base t.r (fun b hb => ⟨(t.bs b hb).symm, t.hn b hb, t.fn b hb⟩) R.pal hd
def slArg : Sl → Option Arg
  | .val d => some (.val d)
  | .own xs => some (.bor xs)
  | .bor xs => some (.bor xs)
  | .pen => some .pen
  | .scr ns => some (.scr ns)
  | .ref a => some (.ref a)
  | .un => none
def toArg (ρ : En S) : Tk → Option Arg
  | .tmp (.val d) => some (.val d)
  | .slot i => (ρ.sl[i]?).bind slArg
  | .fb b => some (.ref b)
  | _ => none
def toArgs (ρ : En S) : List Tk → Option (List Arg)
  | [] => some []
  | k :: ks => (toArg ρ k).bind fun a => (toArgs ρ ks).bind fun as => some (a :: as)
def toArgP (ρ : En S) : Tk → Option Arg
  | .fb b => (StK.look ρ.pn b).map .bor
  | .slot i => match ρ.sl[i]? with
    | some (.ref b) => (StK.look ρ.pn b).map .bor
    | _ => toArg ρ (.slot i)
  | k => toArg ρ k
def toArgsP (ρ : En S) : List Tk → Option (List Arg)
  | [] => some []
  | k :: ks => (toArgP ρ k).bind fun a => (toArgsP ρ ks).bind fun as => some (a :: as)
def dCall (n : Nat) (dsp : DSp S) (ta : AW S) : DW S := fun ρ P => ta ρ fun ks ρ1 => gets (toArgs ρ1 ks) fun as => as.length = n ∧ dsp as ρ1.pn fun d pn' => P (.val d) ⟨ρ1.sl, pn'⟩
def dCallP [PenK S] (n : Nat) (dsp : DSp) (ta : AW S) : DW S := fun ρ P => ta ρ fun ks ρ1 => gets (toArgsP ρ1 ks) fun as => as.length = n ∧ dsp as (PenK.get ρ1.pn) fun d pn' => P (.val d) ⟨ρ1.sl, PenK.set pn' ρ1.pn⟩
end Dk
namespace Dk
open PySem PySem.Spec PyProof.Rows L2
variable {S : Type} [StK S]
theorem Rel.notT {K : Fg} {B : Bs} {pa : Option Addr} {zs : List (Option V)} {H F : Hp} {ws : List Sl} {pn : S} {T : Addr → Prop} (t : StR K B pa zs H F ws pn T) {a : Addr} (h : B.H0 a ≠ none) (n : ¬ B.M a) : ¬ T a := fun z => (t.bs a z).elim h n
theorem Rel.scrR {K : Fg} {B : Bs} {pa : Option Addr} {zs : List (Option V)} {H F : Hp} {ws : List Sl} {pn : S} (R : Rel K B pa zs H F ws pn) {T : Addr → Prop} (t : StR K B pa zs H F ws pn T) {a : Addr} {ns : List Int} (h : ScrR K B.H0 B.M a ns) : ScrR K H T a ns := by
  rcases h with ⟨h, n⟩ | h
  · have hne : B.H0 a ≠ none := by
      rcases h with h | ⟨o, h⟩ <;> (rw [h]; exact nofun)
    refine .inl ⟨?_, Rel.notT t hne n⟩
    rcases h with h | ⟨o, h⟩
    · exact .inl (R.base _ _ h n)
    · exact .inr ⟨o, R.base _ _ h n⟩
  · exact .inr h
theorem Rel.scrH {K : Fg} {B : Bs} {pa : Option Addr} {zs : List (Option V)} {H F : Hp} {ws : List Sl} {pn : S} (R : Rel K B pa zs H F ws pn) {a : Addr} {ns : List Int} (h : ScrR K B.H0 B.M a ns) : SqL K H a (ns.map .int) := by
  obtain ⟨T, t⟩ := R.st
  exact (R.scrR t h).sq
theorem arg_at {K : Fg} {B : Bs} {pa : Option Addr} {σ : L2.St} {τ : List (Option V)} {H F : Hp} {ρ : En S} {θ : List Sl} {k : Tk} {v : V} {a : Arg} (R : Rel K B pa (σ ++ τ) H F (ρ.sl ++ θ) ρ.pn) (hl : ρ.sl.length = σ.length) (c : Nat)
    (hz : τ[c]? = some (some v)) (hw : θ[c]? = some k.sl) (hs : ∀ i, k = .slot i → σ[i]? = some (some v)) (h : toArg ρ k = some a) {T : Addr → Prop} (t : StR K B pa (σ ++ τ) H F (ρ.sl ++ θ) ρ.pn T) : ArgR K H F pa T a v := by
  cases k with
  | bt xs => cases h
  | fb b =>
    cases h
    have hw : θ[c]? = some (.ref b) := hw
    obtain ⟨o, h1, h2⟩ := R.sl (ρ.sl.length + c) (.ref b) (by rw [List.getElem?_append_right (by omega)]; simpa using hw)
    have h2 : o = some (.ref b) := h2
    subst h2
    rw [List.getElem?_append_right (by omega), hl] at h1
    simp at h1
    rw [hz] at h1
    cases h1
    exact rfl
  | tmp r =>
    cases r with
    | own _ => cases h
    | val d =>
      cases h
      replace hw : θ[c]? = some (.val d) := hw
      obtain ⟨o, h1, u, h2, h3⟩ := R.sl (ρ.sl.length + c) (.val d) (by rw [List.getElem?_append_right (by omega)]; simpa using hw)
      rw [List.getElem?_append_right (by omega), hl] at h1
      simp at h1
      rw [hz] at h1
      cases h1
      cases h2
      exact h3
  | slot i =>
    have hv := hs i rfl
    have e : ∀ s, ρ.sl[i]? = some s → SlotR K B pa H F s (some v) := fun s q => by
      have hi := (List.getElem?_eq_some_iff.mp q).1
      obtain ⟨o, h1, h2⟩ := R.sl i s (by rw [List.getElem?_append_left hi]; exact q)
      rw [List.getElem?_append_left (by omega), hv] at h1
      cases h1
      exact h2
    have h : (ρ.sl[i]?).bind slArg = some a := h
    cases q : ρ.sl[i]? with
    | none => rw [q] at h; cases h
    | some s =>
      rw [q] at h
      have := e s q
      cases s with
      | un => cases h
      | val d =>
        cases h
        obtain ⟨u, h1, h2⟩ := this
        cases h1
        exact h2
      | own xs =>
        cases h
        obtain ⟨a, vs, h1, h2, h3, h4, h5⟩ := this
        cases h1
        refine ⟨a, vs, rfl, h2, h3, t.ap i xs a ?_ ?_⟩
        · rw [List.getElem?_append_left (List.getElem?_eq_some_iff.mp q).1]; exact q
        · have hi := (List.getElem?_eq_some_iff.mp q).1
          rw [List.getElem?_append_left (by omega)]; exact hv
      | bor xs =>
        cases h
        obtain ⟨a, vs, h1, h2, h3, h4⟩ := this
        cases h1
        exact ⟨a, vs, rfl, R.base _ _ h2 h4, h3, Rel.notT t (by rw [h2]; exact nofun) h4⟩
      | pen =>
        cases h
        obtain ⟨a, h1, h2⟩ := this
        cases h2
        exact ⟨a, h1, rfl⟩
      | scr ns =>
        cases h
        obtain ⟨a, h1, h2⟩ := this
        cases h1
        exact ⟨a, rfl, R.scrR t h2⟩
      | ref a =>
        cases h
        exact Option.some.inj this
theorem args_all {K : Fg} {B : Bs} {pa : Option Addr} {σ : L2.St} {H F : Hp} {ρ : En S} {T : Addr → Prop} (hl : ρ.sl.length = σ.length) : ∀ (ks : List Tk) (vs : List V) (τ : List (Option V)) (θ : List Sl) (as : List Arg),
    τ.length = θ.length → ks.length = vs.length → Rel K B pa (σ ++ (τ ++ vs.map some)) H F (ρ.sl ++ (θ ++ ks.map Tk.sl)) ρ.pn → StR K B pa (σ ++ (τ ++ vs.map some)) H F (ρ.sl ++ (θ ++ ks.map Tk.sl)) ρ.pn T → (∀ (j : Nat) i v, ks[j]? = some (.slot i) → vs[j]? = some v → σ[i]? = some (some v)) → toArgs ρ ks = some as → ArgsR K H F pa T as vs := by
  intro ks
  induction ks with
  | nil =>
    intro vs τ θ as _ hk _ _ _ h
    cases vs with
    | nil => cases h; rfl
    | cons _ _ => simp at hk
  | cons k ks ih =>
    intro vs τ θ as ht hk R t s h
    cases vs with
    | nil => simp at hk
    | cons v vs =>
      have h : ((toArg ρ k).bind fun a => (toArgs ρ ks).bind fun as => some (a :: as)) = some as := h
      obtain ⟨a, e1, h⟩ := Option.bind_eq_some_iff.mp h
      obtain ⟨as', e2, h⟩ := Option.bind_eq_some_iff.mp h
      cases h
      refine ⟨v, vs, rfl, ?_, ?_⟩
      · exact arg_at R hl τ.length (by simp) (by rw [ht]; simp) (fun i e => s 0 i v (by simp [e]) rfl) e1 t
      · refine ih vs (τ ++ [some v]) (θ ++ [k.sl]) as' (by simp [ht]) (by simpa using hk) (by simpa only [List.append_assoc, List.map_cons, List.singleton_append] using R) (by simpa only [List.append_assoc, List.map_cons, List.singleton_append] using t) (fun j i u h1 h2 => s (j + 1) i u (by simpa using h1) (by simpa using h2)) e2
theorem Rel.popsT {K : Fg} {B : Bs} {pa : Option Addr} {zs os : List (Option V)} {H F : Hp} {ws ss : List Sl} {pn : S} {T : Addr → Prop} (hl : zs.length = ws.length) (t : StR K B pa (zs ++ os) H F (ws ++ ss) pn T) : StR K B pa zs H F ws pn T :=
  ⟨t.r, t.hn, t.fn, t.bs, fun i xs a e1 e2 => t.ap i xs a (by rw [List.getElem?_append_left (List.getElem?_eq_some_iff.mp e1).1]; exact e1) (by rw [List.getElem?_append_left (List.getElem?_eq_some_iff.mp e2).1]; exact e2)⟩
section
variable {X : Cx} {k : Nat} {f : Addr} {fd : FuncData} {ps : List Str} {dsp : DSp S} {x : Str} {p pos : Pos} {e : Expr} {es : List Expr} {ta : AW S}
theorem call_step [NoTag S] {K : Fg} {n : Nat} {dsp : DSp S} {ta : AW S} {σ : L2.St} {H : Hp} {Q : VK} (h : liftO K (tmpD (dCall n dsp ta)) σ H Q) : liftA K ta σ H fun vs H1 => spOf K n dsp vs H1 Q E0 := by
  obtain ⟨B, pa, τ, F, ρ, θ, P, R, hl, h, q⟩ := toE h
  refine ⟨B, pa, τ, F, ρ, θ, _, R, hl, h, fun ks ρ1 vs H1 F1 h1 hl1 hk R1 s1 => ?_⟩
  obtain ⟨as, e1, hn, h1⟩ := gets_elim h1
  have R2 : Rel K B pa (σ ++ τ) H1 F1 (ρ1.sl ++ θ) ρ1.pn := R1.pops (by simp [hk])
  have hτ : τ.length = θ.length := by have := R2.len; simp at this; omega
  obtain ⟨T, t⟩ := R1.st
  have t2 := Rel.popsT R2.len t
  refine ⟨F1, pa, T, as, ρ1.pn, _, R2.sz, R2.fh, args_all hl1 ks vs τ θ as hτ hk (by simpa only [List.append_assoc] using R1) (by simpa only [List.append_assoc] using t) s1 e1, t.r, fun b hb => ⟨t.hn b hb, t.fn b hb⟩, hn, h1, fun d pn' v H' F' T' hp hz hF hFH hfr hH hr hT hpl hv => ?_⟩
  have R3 : Rel K B pa (σ ++ τ) H' F' (ρ1.sl ++ θ) pn' := R2.called t2 hH hF hFH hfr hr (fun b hb => (hT b hb).1) (fun b hb => (hT b hb).2.1) (fun b hb => (hT b hb).2.2) (fun b hb => by
    by_cases hTb : T b
    · exact hpl b hTb
    · obtain ⟨u, e⟩ := Option.ne_none_iff_exists'.mp hb
      rw [hH b u e hTb]
      exact nofun) hz (by rw [NoTag.no, NoTag.no])
  exact q (.val d) ⟨ρ1.sl, pn'⟩ v H' F' hp hl1 (R3.pushVal hv)
theorem ce_call [NoTag S] (F : FnD X.prog X.w X.K X.mg X.base k f fd ps dsp) (O : XO X k) (hm : X.mg x = some (.ref f)) (hk : PySem.W.keepIn X.K (.ref f) = true) (hb : Binds X.K fd ps []) (ha : CA X (e :: es) ta) (hg : Gl X x := by rfl) (hdb : (x == ("__debug__" : Str)) = false := by decide)
    (he : starEach (e :: es) X.env = (false, eval e X.env) :: starEach es X.env := by rfl) (hpl : (backTo pos (starEach es X.env)).any (·.1) = false := by rfl) : CE (S := S) X (.Call (.Name x p) (e :: es) [] pos) (dCall ps.length dsp ta) :=
  pe_mono (pe_callG F O.room O.gd hg hm hk hb .nil pass0 ha hdb he hpl) fun _ _ _ h => by
    have := call_step h
    simp only [tCall, List.append_nil]
    exact this
end
section
variable {S : Type} [PenK S] {X : Cx} {k : Nat} {f : Addr} {fd : FuncData} {ps : List Str} {dsp : DSp} {x : Str} {p pos : Pos} {e : Expr} {es : List Expr} {ta : AW S}
end
end Dk
namespace PySem
open Sem (wp)
abbrev IsZipS (h : Heap) (z TI TO : Addr) (f0 : Value) : Prop := h.get? z = some { cls := .type "zip", data := .fields #[f0, .bool false, .bool true, .ref TI, .ref TO] }
section
variable {prog : Program} {w : World} {A : Around} {E : Value → Shared → Prop} {s : Shared} {z TI TO i1 i2 it : Addr} {fp fp1 fp2 : List Addr} {n n1 n2 i : Nat} {P P1 P2 : Nat → Value → Prop} {St St1 St2 : Nat → Heap → Prop} {a1 a2 : Value}
theorem noe_item {Q : Option Value → Shared → Prop} (D : Draws prog w A it fp n P St) (hi : i < n) (st : St i s.heap) (hQ : ∀ x h' tk, P i x → St (i + 1) h' → Heap.SameBut it s.heap h' → Q (some x) { s with heap := h', toks := tk }) :
    wpAny (model prog w) A (Builtin.SmallTypes.nextOrEnd (.ref it)) Q E s := by
  unfold Builtin.SmallTypes.nextOrEnd
  exact wpAny_bind (wpAny_attempt (D.item i _ _ _ hi st fun x h' tk hx hs hb => wpAny_pure (hQ x h' tk hx hs hb)))
theorem noe_end {Q : Option Value → Shared → Prop} (D : Draws prog w A it fp n P St) (st : St n s.heap) (hQ : ∀ h', Heap.ExtBut it s.heap h' → Q none { s with heap := h' }) :
    wpAny (model prog w) A (Builtin.SmallTypes.nextOrEnd (.ref it)) Q E s := by
  unfold Builtin.SmallTypes.nextOrEnd
  refine wpAny_bind (wpAny_attempt (D.done s _ _ st fun h' e hb he => ?_))
  obtain ⟨o, ho, hc⟩ := he
  refine wpAny_bind (wpAny_isInstance (T := "StopIteration") (b := true) ⟨o, ho, hc⟩ isSubtype_stop ?_)
  exact wpAny_pure (hQ _ hb)
theorem zipS_next_item {Q : Value → Shared → Prop} (S : ZipSep2 z TI TO i1 i2 fp1 fp2) (D1 : Draws prog w A i1 fp1 n1 P1 St1) (D2 : Draws prog w A i2 fp2 n2 P2 St2)
    (hz : IsZipS s.heap z TI TO .none) (hTI : IsTupOf2 s.heap TI (.ref i1) (.ref i2)) (hTO : IsTupOf2 s.heap TO a1 a2) (st1 : St1 i s.heap) (st2 : St2 i s.heap) (hlt1 : i < n1) (hlt2 : i < n2)
    (hQ : ∀ x1 x2 h' tk, P1 i x1 → P2 i x2 → IsZipS h' z TI TO (rawInt s.heap.objs.size) → IsTupOf2 h' TO x1 x2 → St1 (i + 1) h' → St2 (i + 1) h' → IsTupOf2 h' s.heap.objs.size x1 x2 → h'.objs.size = s.heap.objs.size + 1 →
      (∀ c o, c ≠ z → c ≠ TO → c ≠ i1 → c ≠ i2 → s.heap.get? c = some o → h'.get? c = some o) → Q (.ref s.heap.objs.size) { s with heap := h', toks := tk }) :
    wpAny (model prog w) A (Builtin.«zip.__next__» ⟨[.ref z], []⟩) (fun fin s' => ∃ v, fin = .done (.ret v) ∧ Q v s') E s := by
  obtain ⟨hp, g, d, tk0, os⟩ := s
  show wpAny _ _ (field (.ref z) 2 >>= _) _ _ _
  refine wpAny_bind (wpAny_field hz rfl (x := .bool true) rfl ?_)
  show wpAny _ _ (field (.ref z) 3 >>= _) _ _ _
  refine wpAny_bind (wpAny_field hz rfl (x := .ref TI) rfl ?_)
  refine wpAny_bind (wpAny_seqItems hTI rfl ?_)
  show wpAny _ _ (Builtin.SmallTypes.ownedTupleIsFree (.ref z) >>= _) _ _ _
  refine wpAny_bind ?_
  unfold Builtin.SmallTypes.ownedTupleIsFree
  refine wpAny_bind (wpAny_field hz rfl (x := .none) rfl (wpAny_pure ?_))
  simp only [if_true]
  refine wpAny_bind (wpAny_rule ?_)
  refine wpAny_bind (wpAny_field hz rfl (x := .ref TO) rfl ?_)
  refine wpAny_bind (wpAny_setField_rec hz (by simp) fun g0 hz0 hs0 => ?_)
  replace hz0 : IsZipS g0 z TI TO .ellipsis := hz0
  replace hs0 : Heap.SameBut z hp g0 := hs0
  refine wpAny_bind ?_
  simp only [List.zipIdx_cons, List.zipIdx_nil, List.forIn_cons, List.forIn_nil]
  refine wpAny_bind (wpAny_bind (wpAny_onRaise ?_))
  show wpAny _ _ (Builtin.SmallTypes.nextOrEnd (.ref i1)) _ _ ⟨g0, g, d, tk0, os⟩
  refine noe_item D1 hlt1 (D1.over st1 hs0 S.zf1) fun x1 p1 tk1 hx1 sn1 hp1 => ?_
  replace hp1 : Heap.SameBut i1 g0 p1 := hp1
  have hU1 : IsTupOf2 p1 TO a1 a2 := hp1.extBut _ _ S.Ti1 (hs0.extBut _ _ S.TOz hTO)
  refine wpAny_bind (wpAny_seqItems (s := ⟨p1, g, d, tk1, os⟩) hU1 rfl ?_)
  refine wpAny_bind (updateSeq_IsTupOf2 (s := ⟨p1, g, d, tk1, os⟩) hU1 fun g1 hT1 hs1 => ?_)
  replace hT1 : IsTupOf2 g1 TO x1 a2 := hT1
  replace hs1 : Heap.SameBut TO p1 g1 := hs1
  refine wpAny_bind (wpAny_letGo (wpAny_pure ?_))
  refine wpAny_bind (wpAny_bind (wpAny_onRaise ?_))
  show wpAny _ _ (Builtin.SmallTypes.nextOrEnd (.ref i2)) _ _ ⟨g1, g, d, tk1, os⟩
  refine noe_item D2 hlt2 (D2.over (D2.over (D2.over st2 hs0 S.zf2) hp1 S.sep1_2) hs1 S.Tf2) fun x2 p2 tk2 hx2 sn2 hp2 => ?_
  replace hp2 : Heap.SameBut i2 g1 p2 := hp2
  have hU2 : IsTupOf2 p2 TO x1 a2 := hp2.extBut _ _ S.Ti2 hT1
  refine wpAny_bind (wpAny_seqItems (s := ⟨p2, g, d, tk2, os⟩) hU2 rfl ?_)
  refine wpAny_bind (updateSeq_IsTupOf2 (s := ⟨p2, g, d, tk2, os⟩) hU2 fun g2 hT2 hs2 => ?_)
  replace hT2 : IsTupOf2 g2 TO x1 x2 := hT2
  replace hs2 : Heap.SameBut TO p2 g2 := hs2
  refine wpAny_bind (wpAny_letGo (wpAny_pure (wpAny_pure ?_)))
  refine wpAny_bind (wpAny_seqItems (s := ⟨g2, g, d, tk2, os⟩) hT2 rfl ?_)
  refine wpAny_bind (wpAny_newTuple ?_)
  have hsz : g2.objs.size = hp.objs.size := by rw [hs2.1, hp2.1, hs1.1, hp1.1, hs0.1]
  have hzz : IsZipS g2 z TI TO .ellipsis := (hs2.extBut _ _ S.TOz.symm (hp2.extBut _ _ S.zi2 (hs1.extBut _ _ S.TOz.symm (hp1.extBut _ _ S.zi1 hz0))))
  have hkk : ∀ c o, c ≠ z → c ≠ TO → c ≠ i1 → c ≠ i2 → hp.get? c = some o → g2.get? c = some o := fun c o cz cT c1 c2 e =>
    (hs2.extBut _ _ cT (hp2.extBut _ _ c2 (hs1.extBut _ _ cT (hp1.extBut _ _ c1 (hs0.extBut _ _ cz e)))))
  have hj1 : St1 (i + 1) g2 := (D1.over (D1.over (D1.over sn1 hs1 S.Tf1) hp2 S.sep2_1) hs2 S.Tf1)
  have hj2 : St2 (i + 1) g2 := (D2.over sn2 hs2 S.Tf2)
  have hzlt : z < g2.objs.size := Heap.lt_size hzz
  show wpAny _ _ (Builtin.SmallTypes.ownedTupleHandOut (.ref z) (.ref g2.objs.size) >>= _) _ _ ⟨g2.push { cls := .type "tuple", data := .seq #[x1, x2] }, g, d, tk2, os⟩
  refine wpAny_bind ?_
  unfold Builtin.SmallTypes.ownedTupleHandOut
  have hz₆ : IsZipS (g2.push { cls := .type "tuple", data := .seq #[x1, x2] }) z TI TO .ellipsis := Heap.get?_push_of_some _ hzz
  refine wpAny_bind (wpAny_setField_rec hz₆ (by simp) fun h₇ hz₇ hs₇ => ?_)
  replace hz₇ : IsZipS h₇ z TI TO (rawInt g2.objs.size) := hz₇
  refine wpAny_setField_rec hz₇ (by simp) fun h₈ hz₈ hs₈ => ?_
  replace hz₈ : IsZipS h₈ z TI TO (rawInt g2.objs.size) := hz₈
  replace hs₇ : Heap.SameBut z (g2.push { cls := .type "tuple", data := .seq #[x1, x2] }) h₇ := hs₇
  replace hs₈ : Heap.SameBut z h₇ h₈ := hs₈
  have up : ∀ c o, c ≠ z → g2.get? c = some o → h₈.get? c = some o := fun c o c1 e => hs₈.extBut _ _ c1 (hs₇.extBut _ _ c1 (Heap.get?_push_of_some _ e))
  have hT₈ : IsTupOf2 h₈ g2.objs.size x1 x2 := hs₈.extBut _ _ (Nat.ne_of_gt hzlt) (hs₇.extBut _ _ (Nat.ne_of_gt hzlt) (Heap.get?_push_size _ rfl))
  have hz8 : h₈.objs.size = g2.objs.size + 1 := by rw [hs₈.1, hs₇.1, Heap.size_push]
  rw [hsz] at hz₈ hT₈ hz8
  refine wpAny_pure ⟨_, rfl, ?_⟩
  show Q (.ref g2.objs.size) ⟨h₈, g, d, tk2, os⟩
  rw [hsz]
  exact hQ x1 x2 h₈ tk2 hx1 hx2 hz₈ (up _ _ S.TOz hT2) (D1.frame _ _ _ hj1 fun b hb o e => up b o (fun q => S.zf1 (q ▸ hb)) e) (D2.frame _ _ _ hj2 fun b hb o e => up b o (fun q => S.zf2 (q ▸ hb)) e) hT₈ hz8 fun c o cz cT c1 c2 e => up c o cz (hkk c o cz cT c1 c2 e)
theorem stop_raised (hh : A.handled = none) {Q : Fin → Shared → Prop} (hE : ∀ h' e, (∀ c o, s.heap.get? c = some o → h'.get? c = some o) → (∃ o, h'.get? e = some o ∧ o.cls = .type "StopIteration") → E (.ref e) { s with heap := h' }) : wpAny (model prog w) A (Builtin.SmallTypes.stopIteration : Sem Fin) Q E s := by
  unfold Builtin.SmallTypes.stopIteration
  show wpAny _ _ (newExc (.type "StopIteration") [] >>= _) _ _ _
  refine wpAny_bind ?_
  simp only [newExc, newTuple]
  refine wpAny_bind (wpAny_newObj_type ?_ (by size_fits))
  refine wpAny_bind (m := firstArgMember _ _) (wpAny_of_eq (a := Value.none) (by first | rfl | (simp only [firstArgMember]; rfl)) ?_)
  refine wpAny_newObj_type ?_ (by size_fits)
  simp only [raiseNew]
  refine wpAny_bind (wpAny_handled ?_)
  rw [hh]
  refine wpAny_bind (wpAny_pure (wpAny_throw ?_))
  exact hE _ _ (fun c o q => Heap.get?_push_of_some _ (Heap.get?_push_of_some _ q)) ⟨_, Heap.get?_push_size _ rfl, rfl⟩
theorem zipS_next_end (hh : A.handled = none) {Q : Fin → Shared → Prop} (S : ZipSep2 z TI TO i1 i2 fp1 fp2) (D1 : Draws prog w A i1 fp1 n P1 St1) (D2 : Draws prog w A i2 fp2 n P2 St2)
    (hz : IsZipS s.heap z TI TO .none) (hTI : IsTupOf2 s.heap TI (.ref i1) (.ref i2)) (hTO : IsTupOf2 s.heap TO a1 a2) (st1 : St1 n s.heap) (st2 : St2 n s.heap)
    (hE : ∀ h' e, (∀ c o, c ≠ z → c ≠ TO → c ≠ i1 → c ≠ i2 → s.heap.get? c = some o → h'.get? c = some o) → (∃ o, h'.get? e = some o ∧ o.cls = .type "StopIteration") → E (.ref e) { s with heap := h' }) :
    wpAny (model prog w) A (Builtin.«zip.__next__» ⟨[.ref z], []⟩) Q E s := by
  obtain ⟨hp, g, d, tk0, os⟩ := s
  show wpAny _ _ (field (.ref z) 2 >>= _) _ _ _
  refine wpAny_bind (wpAny_field hz rfl (x := .bool true) rfl ?_)
  show wpAny _ _ (field (.ref z) 3 >>= _) _ _ _
  refine wpAny_bind (wpAny_field hz rfl (x := .ref TI) rfl ?_)
  refine wpAny_bind (wpAny_seqItems hTI rfl ?_)
  show wpAny _ _ (Builtin.SmallTypes.ownedTupleIsFree (.ref z) >>= _) _ _ _
  refine wpAny_bind ?_
  unfold Builtin.SmallTypes.ownedTupleIsFree
  refine wpAny_bind (wpAny_field hz rfl (x := .none) rfl (wpAny_pure ?_))
  simp only [if_true]
  refine wpAny_bind (wpAny_rule ?_)
  refine wpAny_bind (wpAny_field hz rfl (x := .ref TO) rfl ?_)
  refine wpAny_bind (wpAny_setField_rec hz (by simp) fun g0 hz0 hs0 => ?_)
  replace hz0 : IsZipS g0 z TI TO .ellipsis := hz0
  replace hs0 : Heap.SameBut z hp g0 := hs0
  refine wpAny_bind ?_
  simp only [List.zipIdx_cons, List.zipIdx_nil, List.forIn_cons, List.forIn_nil]
  refine wpAny_bind (wpAny_bind (wpAny_onRaise ?_))
  show wpAny _ _ (Builtin.SmallTypes.nextOrEnd (.ref i1)) _ _ ⟨g0, g, d, tk0, os⟩
  refine noe_end D1 (D1.over st1 hs0 S.zf1) fun p1 hp1 => ?_
  replace hp1 : Heap.ExtBut i1 g0 p1 := hp1
  have hz1 : IsZipS p1 z TI TO .ellipsis := hp1 _ _ S.zi1 hz0
  refine wpAny_bind (wpAny_setField_rec (s := ⟨p1, g, d, tk0, os⟩) hz1 (by simp) fun g1 _ hs1 => ?_)
  replace hs1 : Heap.SameBut z p1 g1 := hs1
  have k2 : St2 n g1 := D2.frame _ _ _ st2 fun b hb o e => by
    have hbz : b ≠ z := fun q => S.zf2 (q ▸ hb)
    have hb1 : b ≠ i1 := fun q => S.sep1_2 (q ▸ hb)
    exact hs1.extBut _ _ hbz (hp1 _ _ hb1 (hs0.extBut _ _ hbz e))
  refine wpAny_bind (wpAny_bind ?_)
  simp only [List.drop_succ_cons, List.drop_zero, List.zipIdx_cons, List.zipIdx_nil, List.forIn_cons, List.forIn_nil]
  refine wpAny_bind (wpAny_bind (noe_end (s := ⟨g1, g, d, tk0, os⟩) D2 k2 fun p2 hp2 => ?_))
  replace hp2 : Heap.ExtBut i2 g1 p2 := hp2
  refine wpAny_pure (wpAny_pure ?_)
  refine wpAny_bind (wpAny_rule ?_)
  refine stop_raised hh fun h' e hk he => ?_
  exact hE h' e (fun c o cz cT c1 c2 x => hk _ _ (hp2 _ _ c2 (hs1.extBut _ _ cz (hp1 _ _ c1 (hs0.extBut _ _ cz x))))) he
end
end PySem
namespace PySem
open Sem (wp)
section
variable {prog : Program} {w : World} {A : Around} {E : Value → Shared → Prop} {s : Shared} {z TI TO i1 i2 it : Addr} {fp fp1 fp2 : List Addr} {n n1 n2 i : Nat} {P P1 P2 : Nat → Value → Prop} {St St1 St2 : Nat → Heap → Prop} {a1 a2 : Value}
theorem pyNext_zipS_item {Q : Option Value → Shared → Prop} (S : ZipSep2 z TI TO i1 i2 fp1 fp2) (D1 : Draws prog w A.in1 i1 fp1 n1 P1 St1) (D2 : Draws prog w A.in1 i2 fp2 n2 P2 St2)
    (hz : IsZipS s.heap z TI TO .none) (hTI : IsTupOf2 s.heap TI (.ref i1) (.ref i2)) (hTO : IsTupOf2 s.heap TO a1 a2) (st1 : St1 i s.heap) (st2 : St2 i s.heap) (hlt1 : i < n1) (hlt2 : i < n2)
    (hQ : ∀ x1 x2 h' tk, P1 i x1 → P2 i x2 → IsZipS h' z TI TO (rawInt s.heap.objs.size) → IsTupOf2 h' TO x1 x2 → St1 (i + 1) h' → St2 (i + 1) h' → IsTupOf2 h' s.heap.objs.size x1 x2 → h'.objs.size = s.heap.objs.size + 1 →
      (∀ c o, c ≠ z → c ≠ TO → c ≠ i1 → c ≠ i2 → s.heap.get? c = some o → h'.get? c = some o) → Q (some (.ref s.heap.objs.size)) { s with heap := h', toks := tk }) :
    wpAny (model prog w) A (pyNext (.ref z)) Q E s := by
  have hT : s.TypeIs (.ref z) "zip" := ⟨_, hz, rfl⟩
  unfold pyNext
  exact wpAny_bind (wpAny_attempt (wpAny_callSpecial?_slot (name := Str.ofString "__next__") hT F.slot_zip_next
    (wpAny_call_entry F.slot_zip_next hT F.entry_zip_next
      (zipS_next_item S D1 D2 hz hTI hTO st1 st2 hlt1 hlt2 fun x1 x2 h' tk y1 y2 b1 b2 d1 d2 b5 b6 b7 => wpAny_pure (hQ x1 x2 h' tk y1 y2 b1 b2 d1 d2 b5 b6 b7)) (F.args_zip_next_1 _))))
theorem pyNext_zipS_end {Q : Option Value → Shared → Prop} (hh : A.handled = none) (S : ZipSep2 z TI TO i1 i2 fp1 fp2) (D1 : Draws prog w A.in1 i1 fp1 n P1 St1) (D2 : Draws prog w A.in1 i2 fp2 n P2 St2)
    (hz : IsZipS s.heap z TI TO .none) (hTI : IsTupOf2 s.heap TI (.ref i1) (.ref i2)) (hTO : IsTupOf2 s.heap TO a1 a2) (st1 : St1 n s.heap) (st2 : St2 n s.heap)
    (hQ : ∀ h', (∀ c o, c ≠ z → c ≠ TO → c ≠ i1 → c ≠ i2 → s.heap.get? c = some o → h'.get? c = some o) → Q none { s with heap := h' }) : wpAny (model prog w) A (pyNext (.ref z)) Q E s := by
  have hT : s.TypeIs (.ref z) "zip" := ⟨_, hz, rfl⟩
  unfold pyNext
  refine wpAny_bind (wpAny_attempt (wpAny_callSpecial?_slot (name := Str.ofString "__next__") hT F.slot_zip_next
    (wpAny_call_entry F.slot_zip_next hT F.entry_zip_next (zipS_next_end (A := A.in1) (show A.in1.handled = none from hh) S D1 D2 hz hTI hTO st1 st2 fun h' e hk he => ?_) (F.args_zip_next_1 _))))
  obtain ⟨o, ho, hc⟩ := he
  refine wpAny_bind (wpAny_isInstance (T := "StopIteration") (b := true) ⟨o, ho, hc⟩ isSubtype_stop ?_)
  exact wpAny_pure (hQ _ hk)
theorem letGo_zipS {elts : List Expr} {x1} {pos : Pos} {T : Addr} {Q : Unit → Shared → Prop} (hz : IsZipS s.heap z TI TO (rawInt T))
    (hQ : ∀ h', IsZipS h' z TI TO .none → Heap.SameBut z s.heap h' → Q () { s with heap := h' }) :
    wpAny (model prog w) A (letOwnedTupleGo (.Tuple elts x1 pos) (.ref z) (.ref T)) Q E s := by
  unfold letOwnedTupleGo
  refine wpAny_bind (wpAny_load hz ?_)
  show wpAny _ _ (if (["enumerate", "zip", "dict_itemiterator", "dict_reverseitemiterator", "odict_iterator", "itertools.zip_longest", "itertools.pairwise"].contains "zip" &&
      (#[rawInt T, .bool false, .bool true, .ref TI, .ref TO] : Array Value)[0]? == some (rawInt T)) = true then _ else _) Q E s
  rw [if_pos (by simp)]
  refine wpAny_bind (wpAny_rule ?_)
  show wpAny _ _ (setField (.ref z) 0 .none) Q E s
  exact wpAny_setField_rec hz (by simp) fun h' hz' hs' => hQ h' hz' hs'
theorem pyIter_zipS {f0 : Value} {Q : Value → Shared → Prop} (hz : IsZipS s.heap z TI TO f0) (h : Q (.ref z) s) : wpAny (model prog w) A (pyIter (.ref z)) Q E s := by
  have hT : s.TypeIs (.ref z) "zip" := ⟨_, hz, rfl⟩
  refine wpAny_pyIter_slot hT F.slot_zip_iter (wpAny_call_entry F.slot_zip_iter hT F.entry_zip_iter ?_ (F.args_zip_iter_1 _))
  show wpAny _ _ (ret (.ref z)) _ _ s
  exact wpAny_pure ⟨_, rfl, "zip", _, hT, F.slot_zip_next.lookup, h⟩
end
namespace F
end F
end PySem
namespace PySem
section
variable {prog : Program} {w : World} {A : Around} {E : Value → Shared → Prop} {s : Shared}
end
end PySem
namespace Dk
open PySem PySem.Spec PyProof.Rows L2
def SqC (K : Fg) (H : Hp) : Bool → Addr → List V → Prop
  | true, a, xs => SqT K H a xs
  | false, a, xs => SqL K H a xs
def ItC (h : Heap) : Bool → Addr → Addr → Nat → Prop
  | true, it, a, i => h.IsTupleIter it a i
  | false, it, a, i => h.IsListIter it a i
def StC (h : Heap) : Bool → Addr → Array Value → Prop
  | true, a, xs => h.IsTuple a xs
  | false, a, xs => h.IsList a xs
def objC : Bool → Addr → Obj
  | true, a => { cls := .type "tuple_iterator", data := .fields #[.ref a, .int 0 0] }
  | false, a => { cls := .type "list_iterator", data := .fields #[.ref a, .int 0 0] }
theorem begC (c : Bool) (a : Addr) (xs : Array Value) : Begins (.ref a) (objC c a) fun h => StC h c a xs := by
  cases c
  · exact begins_list a xs
  · exact begins_tuple a xs
theorem drawsC {prog : Program} {w : World} {A : Around} (hh : A.handled = none) (c : Bool) (it a : Addr) (hne : a ≠ it) (xs : Array Value) :
    Draws prog w A it [it, a] xs.size (fun i v => xs[i]? = some v) (fun i h => ItC h c it a i ∧ StC h c a xs) := by
  cases c
  · exact Draws.list hh it a hne xs
  · exact Draws.tuple hh it a hne xs
theorem itC0 {c : Bool} {h : Heap} {it a : Addr} (e : h.get? it = some (objC c a)) : ItC h c it a 0 := by
  cases c
  · exact ⟨_, e, rfl, rfl⟩
  · exact ⟨_, e, rfl, rfl⟩
theorem ItC.at {c : Bool} {h h' : Heap} {it a : Addr} {i : Nat} (H : ItC h c it a i) (k : ∀ o, h.get? it = some o → h'.get? it = some o) : ItC h' c it a i := by
  cases c
  · exact Heap.IsListIter.at H k
  · exact Heap.IsTupleIter.at H k
theorem ItC.obj {c : Bool} {h : Heap} {it a : Addr} {i : Nat} (H : ItC h c it a i) : ∃ o, h.get? it = some o ∧ ∀ v, o.data ≠ .cell v := by
  cases c
  · obtain ⟨o, e, _, d⟩ := H
    exact ⟨o, e, fun v q => by rw [d] at q; cases q⟩
  · obtain ⟨o, e, _, d⟩ := H
    exact ⟨o, e, fun v q => by rw [d] at q; cases q⟩
theorem seqC {X : Cx} {pins : List (Addr × Obj)} {σ : L2.St} {H : Hp} {s : Shared} (I : L2.Inv X pins σ H s) {c : Bool} {a : Addr} {xs : List V} (h : SqC X.K H c a xs) : ∃ its : List Value, Vals xs its ∧ StC s.heap c a its.toArray ∧ a < s.heap.objs.size := by
  cases c
  · obtain ⟨its, rv, p, _⟩ := I.list h
    exact ⟨its, rv, p.isList, p.lt⟩
  · obtain ⟨its, rv, p, _⟩ := I.tuple h
    obtain ⟨o, ho, _⟩ := id p
    exact ⟨its, rv, p, Heap.lt_size ho⟩
theorem seqC_inj {X : Cx} {pins : List (Addr × Obj)} {σ : L2.St} {H : Hp} {s : Shared} (I : L2.Inv X pins σ H s) {c : Bool} {a : Addr} {xs ys : List V} (h : SqC X.K H c a xs) (h' : SqC X.K H c a ys) : xs = ys := by
  cases c
  · exact I.list_inj h h'
  · exact I.tuple_inj h h'
def IsZ (st : Bool) (h : Heap) (z TI TO : Addr) (f0 : Value) : Prop := h.get? z = some { cls := .type "zip", data := .fields #[f0, .bool false, .bool st, .ref TI, .ref TO] }
structure Apart2 (z TI TO i1 i2 a b : Addr) : Prop where
  sep : ZipSep2 z TI TO i1 i2 [i1, a] [i2, b]
  a1 : a ≠ i1
  b2 : b ≠ i2
def ItZ (K : Fg) (st : Bool) (c1 c2 : Bool) (a b : Addr) : It :=
  ⟨fun i H => ∃ (xs ys : List V) (x y : V), SqC K H c1 a xs ∧ SqC K H c2 b ys ∧ xs[i]? = some x ∧ ys[i]? = some y,
    fun i H v H' => ∃ T x y o, v = .ref T ∧ H T = none ∧ (H' = upd H T (.frz o (.tup [x, y])) ∧ o.dict = none) ∧ (∀ xs, SqC K H c1 a xs → xs[i]? = some x) ∧ ∀ ys, SqC K H c2 b ys → ys[i]? = some y,
    fun i H => ∃ xs ys : List V, SqC K H c1 a xs ∧ SqC K H c2 b ys ∧ i ≤ xs.length ∧ i ≤ ys.length ∧ (i = xs.length ∨ i = ys.length) ∧ (st = true → i = xs.length ∧ i = ys.length)⟩
theorem turn_z {P : Program} {w : World} {K : Fg} {elts : List Expr} {kk : Nat} {tpos : Pos} {st c1 c2 : Bool} {a b z TI TO i1 i2 : Addr} (D : Apart2 z TI TO i1 i2 a b) :
    Turn P w K (.Tuple elts kk tpos) (ItZ K st c1 c2 a b) [z, TI, TO, i1, i2] z (fun i h => IsZ st h z TI TO .none ∧ IsTupOf2 h TI (.ref i1) (.ref i2) ∧ (∃ x y, IsTupOf2 h TO x y) ∧ ItC h c1 i1 a i ∧ ItC h c2 i2 b i) where
  mem := by simp
  obj := fun i h stt c hc => by
    obtain ⟨hz, hTI, ⟨x, y, hTO⟩, h1, h2⟩ := stt
    have e' : c = z ∨ c = TI ∨ c = TO ∨ c = i1 ∨ c = i2 := by simpa using hc
    rcases e' with q | q | q | q | q
    · rw [q]; exact ⟨_, hz, fun v q => nomatch q⟩
    · rw [q]; exact ⟨_, hTI, fun v q => nomatch q⟩
    · rw [q]; exact ⟨_, hTO, fun v q => nomatch q⟩
    · rw [q]; exact h1.obj
    · rw [q]; exact h2.obj
  keep := fun i h h' stt k => by
    obtain ⟨hz, hTI, ⟨x, y, hTO⟩, h1, h2⟩ := stt
    exact ⟨k z (by simp) _ hz, k TI (by simp) _ hTI, ⟨x, y, k TO (by simp) _ hTO⟩, h1.at fun o q => k i1 (by simp) o q, h2.at fun o q => k i2 (by simp) o q⟩
  item := by
    intro X hP hw hK hc i pins s σ H E I hf stt hg
    subst hP hw hK
    obtain ⟨hz, hTI, ⟨x0, y0, hTO⟩, h1, h2⟩ := stt
    obtain ⟨xs, ys, x, y, hqx, hqy, hx, hy⟩ := hg
    obtain ⟨its, rv, p, _⟩ := seqC I hqx
    obtain ⟨its2, rv2, p2, _⟩ := seqC I hqy
    obtain ⟨u, hu, ru⟩ := rv.get hx
    obtain ⟨u2, hu2, ru2⟩ := rv2.get hy
    have hzl : z < s.heap.objs.size := Heap.lt_size hz
    have hh : X.A.in1.handled = none := I.ok.hd hc
    have D1 := drawsC (prog := X.prog) (w := X.w) hh c1 i1 a D.a1 its.toArray
    have D2 := drawsC (prog := X.prog) (w := X.w) hh c2 i2 b D.b2 its2.toArray
    have hi1 : i < its.toArray.size := by simpa using (List.getElem?_eq_some_iff.mp hu).1
    have hi2 : i < its2.toArray.size := by simpa using (List.getElem?_eq_some_iff.mp hu2).1
    have S := D.sep
    have fin : ∀ (h' : Heap) (tk : Tok) (x1 x2 : Value), its.toArray[i]? = some x1 → its2.toArray[i]? = some x2 → IsZ st h' z TI TO (rawInt s.heap.objs.size) → IsTupOf2 h' TO x1 x2 → ItC h' c1 i1 a (i + 1) → ItC h' c2 i2 b (i + 1) → IsTupOf2 h' s.heap.objs.size x1 x2 →
        (∀ c o, c ≠ z → c ≠ TO → c ≠ i1 → c ≠ i2 → s.heap.get? c = some o → h'.get? c = some o) → ∃ v, some (Value.ref s.heap.objs.size) = some v ∧
          wpAny (model X.prog X.w) X.A (letOwnedTupleGo (.Tuple elts kk tpos) (.ref z) v) (fun _ s2 => ∃ x H', L2.Inv X pins σ H' s2 ∧ RelV x v ∧ (ItZ X.K st c1 c2 a b).yld i H x H' ∧ (IsZ st s2.heap z TI TO .none ∧ IsTupOf2 s2.heap TI (.ref i1) (.ref i2) ∧ (∃ x y, IsTupOf2 s2.heap TO x y) ∧ ItC s2.heap c1 i1 a (i + 1) ∧ ItC s2.heap c2 i2 b (i + 1)) ∧ ∀ b ∈ [z, TI, TO, i1, i2], H' b = none) E { s with heap := h', toks := tk } := by
      intro h' tk x1 x2 hx1 hx2 z' TO' j1 j2 hT hk
      have e1 : x1 = u := by rw [List.getElem?_toArray, hu] at hx1; cases hx1; rfl
      have e2 : x2 = u2 := by rw [List.getElem?_toArray, hu2] at hx2; cases hx2; rfl
      subst e1 e2
      refine ⟨_, rfl, ?_⟩
      have go : ∀ (h'' : Heap), IsZ st h'' z TI TO .none → Heap.SameBut z h' h'' → ∃ x H', L2.Inv X pins σ H' { s with heap := h'', toks := tk } ∧ RelV x (Value.ref s.heap.objs.size) ∧ (ItZ X.K st c1 c2 a b).yld i H x H' ∧ (IsZ st h'' z TI TO .none ∧ IsTupOf2 h'' TI (.ref i1) (.ref i2) ∧ (∃ x y, IsTupOf2 h'' TO x y) ∧ ItC h'' c1 i1 a (i + 1) ∧ ItC h'' c2 i2 b (i + 1)) ∧ ∀ b ∈ [z, TI, TO, i1, i2], H' b = none := by
        intro h'' z'' sb
        have hT2 : h''.get? s.heap.objs.size = some { cls := .type "tuple", data := .seq #[x1, x2] } := (sb.2 _ (Nat.ne_of_gt hzl)).trans hT
        have new : ObjOk X.prog X.w (upd H s.heap.objs.size (.frz (tObj #[x1, x2]) (.tup [x, y]))) h'' s.heap.objs.size (.frz (tObj #[x1, x2]) (.tup [x, y])) :=
          ⟨hT2, by show 2 ≤ sizeLine; decide, [x1, x2], .cons ru (.cons ru2 .nil), ⟨_, hT2, rfl, _, rfl⟩⟩
        have I1 : L2.Inv X pins σ (upd H s.heap.objs.size (.frz (tObj #[x1, x2]) (.tup [x, y]))) { s with heap := h'', toks := tk } :=
          I.turnedNew (t' := tk) (ch := [z, TI, TO, i1, i2]) (fun c o hb q => (sb.2 c (fun q' => hb (by simp [q']))).trans (hk c o (fun q' => hb (by simp [q'])) (fun q' => hb (by simp [q'])) (fun q' => hb (by simp [q'])) (fun q' => hb (by simp [q'])) q)) hf (Nat.le_refl _) new
        refine ⟨.ref s.heap.objs.size, _, I1, rfl, ⟨_, x, y, _, rfl, I.hok.fresh (Nat.le_refl _), ⟨rfl, rfl⟩, fun l hl => by rw [seqC_inj I hl hqx]; exact hx, fun l hl => by rw [seqC_inj I hl hqy]; exact hy⟩, ⟨z'', ?_, ⟨x1, x2, ?_⟩, ?_, ?_⟩, fun c hcm => ?_⟩
        · exact (sb.2 _ S.TIz).trans (hk _ _ S.TIz S.TITO S.TIi1 S.TIi2 hTI)
        · exact (sb.2 _ S.TOz).trans TO'
        · exact j1.at fun o q => (sb.2 _ S.zi1.symm).trans q
        · exact j2.at fun o q => (sb.2 _ S.zi2.symm).trans q
        · have hlt : c < s.heap.objs.size := by
            have e' : c = z ∨ c = TI ∨ c = TO ∨ c = i1 ∨ c = i2 := by simpa using hcm
            rcases e' with q | q | q | q | q
            · rw [q]; exact hzl
            · rw [q]; exact Heap.lt_size hTI
            · rw [q]; exact Heap.lt_size hTO
            · rw [q]; obtain ⟨_, e1, _⟩ := h1.obj; exact Heap.lt_size e1
            · rw [q]; obtain ⟨_, e2, _⟩ := h2.obj; exact Heap.lt_size e2
          rw [upd_ne (Nat.ne_of_lt hlt)]
          exact (hf c hcm).1
      cases st
      · exact wpAny_letOwnedTupleGo_zip (s := { s with heap := h', toks := tk }) z' fun h'' z'' sb => go h'' z'' sb
      · exact letGo_zipS (s := { s with heap := h', toks := tk }) z' fun h'' z'' sb => go h'' z'' sb
    cases st
    · exact wpAny_pyNext_zipD2_item S D1 D2 hz hTI hTO ⟨h1, p⟩ ⟨h2, p2⟩ hi1 hi2 fun x1 x2 h' tk hx1 hx2 z' TO' s1 s2 hT _ hk => fin h' tk x1 x2 hx1 hx2 z' TO' s1.1 s2.1 hT hk
    · exact pyNext_zipS_item S D1 D2 hz hTI hTO ⟨h1, p⟩ ⟨h2, p2⟩ hi1 hi2 fun x1 x2 h' tk hx1 hx2 z' TO' s1 s2 hT _ hk => fin h' tk x1 x2 hx1 hx2 z' TO' s1.1 s2.1 hT hk
  done := by
    intro X hP hw hK hc i pins s σ H E I hf stt hg
    subst hP hw hK
    obtain ⟨hz, hTI, ⟨x0, y0, hTO⟩, h1, h2⟩ := stt
    obtain ⟨xs, ys, hqx, hqy, l1, l2, hend, hst⟩ := hg
    obtain ⟨its, rv, p, _⟩ := seqC I hqx
    obtain ⟨its2, rv2, p2, _⟩ := seqC I hqy
    have m1 : its.toArray.size = xs.length := by simp [rv.length]
    have m2 : its2.toArray.size = ys.length := by simp [rv2.length]
    have hh : X.A.in1.handled = none := I.ok.hd hc
    have D1 := drawsC (prog := X.prog) (w := X.w) hh c1 i1 a D.a1 its.toArray
    have D2 := drawsC (prog := X.prog) (w := X.w) hh c2 i2 b D.b2 its2.toArray
    have fin : ∀ (h' : Heap) (tk : Tok), (∀ c o, c ≠ z → c ≠ TO → c ≠ i1 → c ≠ i2 → s.heap.get? c = some o → h'.get? c = some o) → L2.Inv X pins σ H { s with heap := h', toks := tk } := fun h' tk hk =>
      I.turnedL (t' := tk) (ch := [z, TI, TO, i1, i2]) (fun c o hb q => hk c o (fun q' => hb (by simp [q'])) (fun q' => hb (by simp [q'])) (fun q' => hb (by simp [q'])) (fun q' => hb (by simp [q'])) q) hf
    cases st
    · exact wpAny_pyNext_zipD2_end D.sep D1 D2 hz hTI hTO ⟨h1, p⟩ ⟨h2, p2⟩ (by omega) (by omega) (by omega) fun h' tk hk => ⟨rfl, fin h' tk hk⟩
    · obtain ⟨e1, e2⟩ := hst rfl
      rw [m1, ← e1] at D1
      rw [m2, ← e2] at D2
      exact pyNext_zipS_end (I.ok.hd hc) D.sep D1 D2 hz hTI hTO ⟨h1, p⟩ ⟨h2, p2⟩ fun h' hk => ⟨rfl, fin h' s.toks hk⟩
  self := fun A i s Q E stt h => by
    cases st
    · exact wpAny_pyIter_zip stt.1 h
    · exact pyIter_zipS stt.1 h
end Dk
namespace PySem
theorem meets_enumerate_newG {v : Value} {o : Obj} {H : Heap → Prop} (B : Begins v o H) :
    Meets (Builtin.«enumerate.__new__» ⟨[.type "enumerate", v], []⟩) (fun _ R s => H s.heap ∧
      R (.ok (.ret (.ref (s.heap.push o).objs.size))) { s with heap := (s.heap.push o).push { cls := .type "enumerate", data := .fields #[.none, .bool false, .ref s.heap.objs.size, rawInt 0, .none, .none] } }) :=
  .of_wp fun prog w A R s h => by
    obtain ⟨hp, g, d, tk, os⟩ := s; obtain ⟨h1, h⟩ := h
    have hsub := sub_enumerate
    have q1 : ∀ {A' : Around} {E : Value → Shared → Prop} {Q : Value → Shared → Prop}, Q (.ref hp.objs.size) ⟨hp.push o, g, d, tk, os⟩ → wpAny (model prog w) A' (pyIter v) Q E ⟨hp, g, d, tk, os⟩ :=
      fun q => B.iter prog w _ _ ⟨hp, g, d, tk, os⟩ _ h1 q
    wp_walk using q1
    refine wpAny_stack_any fun st => wpAny_pure ?_
    split
    · rename_i c _ _ _ _ _
      cases (c == Value.type "enumerate")
      · wp_walk using q1
        exact ⟨_, rfl, h⟩
      · wp_walk using q1
        exact ⟨_, rfl, h⟩
    · wp_walk using q1
      exact ⟨_, rfl, h⟩
section
variable {prog : Program} {w : World} {A : Around} {E : Value → Shared → Prop} {s : Shared}
theorem call_enumerateG {v : Value} {o : Obj} {H : Heap → Prop} {Q : Value → Shared → Prop} (B : Begins v o H) (h1 : H s.heap)
    (h : ∀ h', IsEnum h' (s.heap.objs.size + 1) s.heap.objs.size 0 .none → h'.get? s.heap.objs.size = some o → h'.objs.size = s.heap.objs.size + 2 →
      (∀ b o, s.heap.get? b = some o → h'.get? b = some o) → Q (.ref (s.heap.objs.size + 1)) { s with heap := h' }) :
    wpAny (model prog w) A (call (.type "enumerate") [v]) Q E s := by
  refine callType_new F.called_enumerate (by decide) (F.typeCall_enumerate_1 _) (F.newCall_enumerate_1 _) (fun obj => F.args_object_init_2 obj _) F.entry_enumerate_new
    (meets_enumerate_newG B) ⟨h1, ?_⟩
  have hz : (s.heap.push o).objs.size = s.heap.objs.size + 1 := Heap.size_push ..
  show _ ∧ _
  rw [hz]
  have he : IsEnum ((s.heap.push o).push { cls := .type "enumerate", data := .fields #[.none, .bool false, .ref s.heap.objs.size, rawInt 0, .none, .none] }) (s.heap.objs.size + 1) s.heap.objs.size 0 .none := by
    have := Heap.get?_push_size (s.heap.push o) (o := { cls := .type "enumerate", data := .fields #[.none, .bool false, .ref s.heap.objs.size, rawInt 0, .none, .none] }) rfl
    rw [hz] at this; exact this
  refine ⟨⟨_, he, rfl⟩, h _ he (Heap.get?_push_of_some _ (Heap.get?_push_size _ B.free)) (by rw [Heap.size_push, hz]) fun b o x => Heap.get?_push_of_some _ (Heap.get?_push_of_some _ x)⟩
end
end PySem
namespace Dk
open PySem PySem.Spec PyProof.Rows L2
variable {S : Type} [StK S]
def ItE (K : Fg) (c : Bool) (a : Addr) : It :=
  ⟨fun i H => ∃ (xs : List V) (x : V), SqC K H c a xs ∧ xs[i]? = some x, fun i H v H' => ∃ T x o, v = .ref T ∧ H T = none ∧ (H' = upd H T (.frz o (.tup [.int (i : Nat), x])) ∧ o.dict = none) ∧ ∀ xs, SqC K H c a xs → xs[i]? = some x, fun i H => ∃ xs : List V, SqC K H c a xs ∧ i = xs.length⟩
theorem turn_e {P : Program} {w : World} {K : Fg} {elts : List Expr} {kk : Nat} {tpos : Pos} {c : Bool} {a e it : Addr} (ha : a ≠ it) (hea : e ≠ a) :
    Turn P w K (.Tuple elts kk tpos) (ItE K c a) [e, it] e (fun i h => (∃ old, IsEnum h e it ((i : Nat) : Int) old) ∧ ItC h c it a i ∧ e ≠ it) where
  mem := by simp
  obj := fun i h st b hb => by
    obtain ⟨⟨old, he⟩, hi, _⟩ := st
    have e' : b = e ∨ b = it := by simpa using hb
    rcases e' with z | z
    · rw [z]; exact ⟨_, he, fun v q => nomatch q⟩
    · rw [z]; exact hi.obj
  keep := fun i h h' st k => let ⟨⟨old, he⟩, hi, hne⟩ := st; ⟨⟨old, k e (by simp) _ he⟩, hi.at fun o q => k it (by simp) o q, hne⟩
  item := by
    intro X hP hw hK hc i pins s σ H E I hf st hg
    subst hP hw hK
    obtain ⟨⟨old, he⟩, hit, hne⟩ := st
    obtain ⟨xs, x, hq, hx⟩ := hg
    obtain ⟨its, rv, p, _⟩ := seqC I hq
    obtain ⟨u, hu, ru⟩ := rv.get hx
    have hel : e < s.heap.objs.size := Heap.lt_size he
    have hil : it < s.heap.objs.size := by obtain ⟨_, q, _⟩ := hit.obj; exact Heap.lt_size q
    have D := drawsC (prog := X.prog) (w := X.w) (A := X.A.in1) (I.ok.hd hc) c it a ha its.toArray
    have hi : i < its.toArray.size := by simpa using (List.getElem?_eq_some_iff.mp hu).1
    refine wpAny_pyNext_enum_itemC D he ⟨hit, p⟩ hi hne (by simp [hne, hea]) fun x1 h' tk hx1 ho s1 hT hsz hk => ?_
    have e1 : x1 = u := by rw [List.getElem?_toArray, hu] at hx1; cases hx1; rfl
    subst e1
    refine ⟨_, rfl, wpAny_letOwnedTupleGo_enum (s := { s with heap := h', toks := tk + 1 }) ho fun h'' he' sb => ?_⟩
    have hT2 : h''.get? s.heap.objs.size = some { cls := .type "tuple", data := .seq #[.int i tk, x1] } := (sb.2 _ (Nat.ne_of_gt hel)).trans hT
    have new : ObjOk X.prog X.w (upd H s.heap.objs.size (.frz (tObj #[.int i tk, x1]) (.tup [.int (i : Nat), x]))) h'' s.heap.objs.size (.frz (tObj #[.int i tk, x1]) (.tup [.int (i : Nat), x])) :=
      ⟨hT2, by show 2 ≤ sizeLine; decide, [.int i tk, x1], .cons ⟨_, rfl⟩ (.cons ru .nil), ⟨_, hT2, rfl, _, rfl⟩⟩
    have I1 : L2.Inv X pins σ (upd H s.heap.objs.size (.frz (tObj #[.int i tk, x1]) (.tup [.int (i : Nat), x]))) { s with heap := h'', toks := tk + 1 } :=
      I.turnedNew (ch := [e, it]) (fun b ob hb q => (sb.2 b (fun z => hb (by simp [z]))).trans (hk b ob (fun z => hb (by simp [z])) (fun z => hb (by simp [z])) q)) hf (Nat.le_refl _) new
    refine ⟨.ref s.heap.objs.size, _, I1, rfl, ⟨_, x, _, rfl, I.hok.fresh (Nat.le_refl _), ⟨rfl, rfl⟩, fun ys hy => by rw [seqC_inj I hy hq]; exact hx⟩, ⟨⟨x1, ?_⟩, s1.1.at fun o q => (sb.2 it (Ne.symm hne)).trans q, hne⟩, fun b hb => ?_⟩
    · have e1 : ((i + 1 : Nat) : Int) = (i : Int) + 1 := by omega
      rw [e1]; exact he'
    · have hb' : b < s.heap.objs.size := by
        have e' : b = e ∨ b = it := by simpa using hb
        rcases e' with z | z
        · rw [z]; exact hel
        · rw [z]; exact hil
      rw [upd_ne (Nat.ne_of_lt hb')]
      exact (hf b hb).1
  done := by
    intro X hP hw hK hc i pins s σ H E I hf st hg
    subst hP hw hK
    obtain ⟨⟨old, he⟩, hit, hne⟩ := st
    obtain ⟨xs, hq, hx⟩ := hg
    obtain ⟨its, rv, p, _⟩ := seqC I hq
    obtain ⟨f0, f1, f2, f3, f4, f5⟩ := hf it (by simp)
    have hl : its.toArray.size = xs.length := by simp [rv.length]
    have D := drawsC (prog := X.prog) (w := X.w) (A := X.A.in1) (I.ok.hd hc) c it a ha its.toArray
    rw [hl, ← hx] at D
    exact wpAny_pyNext_enum_endD D he ⟨hit, p⟩ fun h' eb => ⟨rfl, I.turned (t' := s.toks) (fun b o hb q => eb b o hb q) f0 f1 f3 f4 f5⟩
  self := fun A i s Q E st h => let ⟨⟨_, he⟩, _⟩ := st; wpAny_pyIter_enum he h
section
variable {X : Cx} {e e2 : Expr} {ta : TA} {p pos tpos : Pos} {elts : List Expr} {kk : Nat}
def iEnumC (K : Fg) (ta : TA) : TI := fun σ H R => ta σ H fun vs H1 => ∃ a c xs, vs = [.ref a] ∧ SqC K H1 c a xs ∧ R (ItE K c a) H1
theorem pi_e (hg : Gl X "enumerate") (hm : X.mg "enumerate" = none) (ha : PA X [e] ta) (hs : starEach [e] X.env = [(false, eval e X.env)] := by rfl) :
    PI X (.Tuple elts kk tpos) (.Call (.Name "enumerate" p) [e] [] pos) (iEnumC X.K ta) := by
  refine ⟨fun pins s σ H R I h => ?_⟩
  refine Call_ (ld_blt I hg hm boot_enumerate (PyProof.Rows.callWith_type1 (thn (ha.run pos pins s σ H _ I h) fun us s1 ⟨vs, H1, I1, r1, q1⟩ => ?_) hs rfl))
  obtain ⟨a, c, xs, ex, hq, q⟩ := q1
  subst ex
  cases r1 with
  | cons r rr =>
    cases rr
    cases r
    obtain ⟨its, rv, p', hlt⟩ := seqC I1 hq
    refine call_enumerateG (begC c a its.toArray) p' fun h' he hit hsz hk => wpAny_pyIter_enum he ?_
    have I2 : L2.Inv X pins σ H1 { s1 with heap := h' } := I1.kept (t' := s1.toks) hk
    refine ⟨s1.heap.objs.size + 1, [s1.heap.objs.size + 1, s1.heap.objs.size], _, _, H1, rfl, I2, turn_e (c := c) (a := a) (e := s1.heap.objs.size + 1) (it := s1.heap.objs.size) (Nat.ne_of_lt hlt) (Nat.ne_of_gt (Nat.lt_succ_of_lt hlt)), ⟨⟨.none, he⟩, itC0 hit, Nat.succ_ne_self _⟩, fun b hb => ?_, q⟩
    have e' : b = s1.heap.objs.size + 1 ∨ b = s1.heap.objs.size := by simpa using hb
    have hle : s1.heap.objs.size ≤ b := by
      rcases e' with z | z
      · rw [z]; exact Nat.le_add_right _ _
      · rw [z]; exact Nat.le_refl _
    exact I1.fpOk hle (I1.hok.fresh hle)
def iZipC (K : Fg) (st : Bool) (ta : TA) : TI := fun σ H R => ta σ H fun vs H1 => ∃ a b c1 c2 xs ys, vs = [.ref a, .ref b] ∧ SqC K H1 c1 a xs ∧ SqC K H1 c2 b ys ∧ R (ItZ K st c1 c2 a b) H1
theorem fresh5 {pins : List (Addr × Obj)} {σ : L2.St} {H : Hp} {s : Shared} (I : L2.Inv X pins σ H s) : ∀ c, c ∈ [s.heap.objs.size + 4, s.heap.objs.size + 2, s.heap.objs.size + 3, s.heap.objs.size, s.heap.objs.size + 1] → FpOk X pins H c := fun c hcm => by
  have e' : c = s.heap.objs.size + 4 ∨ c = s.heap.objs.size + 2 ∨ c = s.heap.objs.size + 3 ∨ c = s.heap.objs.size ∨ c = s.heap.objs.size + 1 := by simpa using hcm
  have hle : s.heap.objs.size ≤ c := by
    rcases e' with z | z | z | z | z
    · rw [z]; exact Nat.le_add_right _ _
    · rw [z]; exact Nat.le_add_right _ _
    · rw [z]; exact Nat.le_add_right _ _
    · rw [z]; exact Nat.le_refl _
    · rw [z]; exact Nat.le_add_right _ _
  exact I.fpOk hle (I.hok.fresh hle)
theorem apart_new {N a b : Nat} (ha : a < N) (hb : b < N) : Apart2 (N + 4) (N + 2) (N + 3) N (N + 1) a b :=
  ⟨zip_sep2 (fp1 := [a]) (fp2 := [b]) (by simp; exact ha) (by simp; exact hb), Nat.ne_of_lt ha, Nat.ne_of_lt (Nat.lt_succ_of_lt hb)⟩
theorem pi_z (hg : Gl X "zip") (hm : X.mg "zip" = none) (ha : PA X [e, e2] ta)
    (hs : starEach [e, e2] X.env = (false, eval e X.env) :: starEach [e2] X.env := by rfl) (hpl : (backTo pos (starEach [e2] X.env)).any (·.1) = false := by rfl) :
    PI X (.Tuple elts kk tpos) (.Call (.Name "zip" p) [e, e2] [] pos) (iZipC X.K false ta) := by
  refine ⟨fun pins s σ H R I h => ?_⟩
  refine Call_ (ld_blt I hg hm PyProof.Rows.boot_zip (PyProof.Rows.callWith_type1 (thn (ha.run pos pins s σ H _ I h) fun us s1 ⟨vs, H1, I1, r1, q1⟩ => ?_) hs hpl))
  obtain ⟨a, b, c1, c2, xs, ys, ex, hqx, hqy, q⟩ := q1
  subst ex
  cases r1 with
  | cons r rr =>
    cases rr with
    | cons r' rr =>
      cases rr
      cases r
      cases r'
      obtain ⟨its, rv, p1, l1⟩ := seqC I1 hqx
      obtain ⟨its2, rv2, p2, l2⟩ := seqC I1 hqy
      refine zip_begins2 (begC c1 a its.toArray) (begC c2 b its2.toArray) p1 p2 fun h' hz hTI hTO h1 h2 hsz hk => wpAny_pyIter_zip hz ?_
      have I2 : L2.Inv X pins σ H1 { s1 with heap := h' } := I1.kept (t' := s1.toks) hk
      exact ⟨s1.heap.objs.size + 4, [s1.heap.objs.size + 4, s1.heap.objs.size + 2, s1.heap.objs.size + 3, s1.heap.objs.size, s1.heap.objs.size + 1], _, _, H1, rfl, I2, turn_z (apart_new l1 l2), ⟨hz, hTI, ⟨_, _, hTO⟩, itC0 h1, itC0 h2⟩, fresh5 I1, q⟩
end
end Dk
namespace Dk
open PySem PySem.Spec PyProof.Rows L2
variable {S : Type} [StK S]
def kindD : D → Option Bool
  | .list _ => some false
  | .tuple _ => some true
  | _ => none
def seqK : Bool → D → Option (List D)
  | false, .list ds => some ds
  | true, .tuple ds => some ds
  | _, _ => none
@[simp] theorem kindD_list {ds : List D} : kindD (.list ds) = some false := rfl
@[simp] theorem kindD_tuple {ds : List D} : kindD (.tuple ds) = some true := rfl
@[simp] theorem seqK_list {ds : List D} : seqK false (.list ds) = some ds := rfl
@[simp] theorem seqK_tuple {ds : List D} : seqK true (.tuple ds) = some ds := rfl
theorem seqK_some {c : Bool} {d : D} {ds : List D} (h : seqK c d = some ds) : (c = false ∧ d = .list ds) ∨ (c = true ∧ d = .tuple ds) := by
  unfold seqK at h
  split at h
  · cases h; exact .inl ⟨rfl, rfl⟩
  · cases h; exact .inr ⟨rfl, rfl⟩
  · cases h
section
variable {K : Fg} {H F : Hp} {d : D} {v : V} {c : Bool} {ds : List D}
theorem seqK_read (h : RdD K H F d v) (e : Le F H) (z : Szs H) (k : seqK c d = some ds) : ∃ a vs, v = .ref a ∧ SqC K H c a vs ∧ DRs K F ds vs ∧ ds.length ≤ sizeLine := by
  rcases seqK_some k with ⟨rfl, rfl⟩ | ⟨rfl, rfl⟩
  · obtain ⟨a, vs, h1, h2, h3⟩ := h.list e
    exact ⟨a, vs, h1, .inl (.inl h2), h3, by rw [← h3.len]; exact z.l h2⟩
  · obtain ⟨a, vs, h1, h2, h3⟩ := h.tuple e
    exact ⟨a, vs, h1, h2, h3, by rw [← h3.len]; exact z.t h2⟩
theorem kind_read (h : RdD K H F d v) (e : Le F H) (z : Szs H) (k : kindD d = some c) : ∃ a vs, v = .ref a ∧ SqC K H c a vs := by
  cases d with
  | list ds =>
    cases k
    obtain ⟨a, vs, h1, h2, _⟩ := seqK_read (c := false) (ds := ds) h e z rfl
    exact ⟨a, vs, h1, h2⟩
  | tuple ds =>
    cases k
    obtain ⟨a, vs, h1, h2, _⟩ := seqK_read (c := true) (ds := ds) h e z rfl
    exact ⟨a, vs, h1, h2⟩
  | _ => cases k
end
def enumL : Nat → List D → List D
  | _, [] => []
  | n, d :: ds => .tuple [.int n, d] :: enumL (n + 1) ds
theorem enumL_get : ∀ {ds : List D} {n i : Nat}, (enumL n ds)[i]? = (ds[i]?).map fun d => .tuple [.int (n + i : Nat), d]
  | [], n, i => by simp [enumL]
  | d :: ds, n, 0 => by simp [enumL]
  | d :: ds, n, i + 1 => by
    rw [enumL, List.getElem?_cons_succ, enumL_get, List.getElem?_cons_succ]
    rw [show n + 1 + i = n + (i + 1) by omega]
@[simp] theorem enumL_len : ∀ {ds : List D} {n : Nat}, (enumL n ds).length = ds.length
  | [], n => rfl
  | d :: ds, n => by rw [enumL, List.length_cons, enumL_len, List.length_cons]
def enumF (c : Bool) : List D → Option (List D)
  | [d] => (seqK c d).map (enumL 0)
  | _ => none
def pairL (xs ys : List D) : List D := List.zipWith (fun x y => .tuple [x, y]) xs ys
def zipF (st c1 c2 : Bool) : List D → Option (List D)
  | [d1, d2] => (seqK c1 d1).bind fun xs => (seqK c2 d2).bind fun ys => if st = true ∧ xs.length ≠ ys.length then none else some (pairL xs ys)
  | _ => none
section
variable {K : Fg}
theorem src_e {F0 : Hp} {c : Bool} {a : Addr} : SrcOk K F0 (ItE K c a) (enumF c) [.ref a] := by
  have inv : ∀ {ds items : List D}, enumF c ds = some items → ∃ d xs, ds = [d] ∧ seqK c d = some xs ∧ items = enumL 0 xs := fun {ds items} e => by
    unfold enumF at e
    split at e
    · obtain ⟨xs, h1, h2⟩ := Option.map_eq_some_iff.mp e
      exact ⟨_, xs, rfl, h1, h2.symm⟩
    · cases e
  refine ⟨fun H F ds items i d hz _ hF h e hi => ?_, fun H F ds items hz _ hF h e => ?_⟩
  · obtain ⟨d0, xs, rfl, h1, rfl⟩ := inv e
    obtain ⟨v, hv, h⟩ := h.one
    cases hv
    obtain ⟨a', vs, hv, hs, hr, _⟩ := seqK_read h hF hz h1
    cases hv
    rw [enumL_get] at hi
    obtain ⟨x, h2, h3⟩ := Option.map_eq_some_iff.mp hi
    obtain ⟨u, h4, h5⟩ := hr.get h2
    refine ⟨⟨vs, u, hs, h4⟩, fun y H' ⟨T, x', o, e1, e2, ⟨e3, e5⟩, e4⟩ => .inr ⟨T, [.int i, x], [.int i, x'], o, ?_, e1, e2, e3, ?_, by show 2 ≤ sizeLine; decide, e5⟩⟩
    · rw [← h3]
      simp
    · have := e4 vs hs
      rw [h4] at this
      cases this
      exact .cons (DR.int_.mpr rfl) (.cons h5 .nil)
  · obtain ⟨d0, xs, rfl, h1, rfl⟩ := inv e
    obtain ⟨v, hv, h⟩ := h.one
    cases hv
    obtain ⟨a', vs, hv, hs, hr, hl⟩ := seqK_read h hF hz h1
    cases hv
    rw [enumL_len]
    exact ⟨⟨vs, hs, hr.len.symm⟩, hl⟩
theorem src_z {F0 : Hp} {st c1 c2 : Bool} {a b : Addr} : SrcOk K F0 (ItZ K st c1 c2 a b) (zipF st c1 c2) [.ref a, .ref b] := by
  have inv : ∀ {ds items : List D}, zipF st c1 c2 ds = some items → ∃ d1 d2 xs ys, ds = [d1, d2] ∧ seqK c1 d1 = some xs ∧ seqK c2 d2 = some ys ∧ (st = true → xs.length = ys.length) ∧ items = pairL xs ys := fun {ds items} e => by
    unfold zipF at e
    split at e
    · obtain ⟨xs, h1, h2⟩ := Option.bind_eq_some_iff.mp e
      obtain ⟨ys, h3, h4⟩ := Option.bind_eq_some_iff.mp h2
      split at h4
      · cases h4
      · rename_i hn
        cases h4
        exact ⟨_, _, xs, ys, rfl, h1, h3, fun hs => by
          by_cases q : xs.length = ys.length
          · exact q
          · exact absurd ⟨hs, q⟩ hn, rfl⟩
    · cases e
  refine ⟨fun H F ds items i d hz _ hF h e hi => ?_, fun H F ds items hz _ hF h e => ?_⟩
  · obtain ⟨d1, d2, xs, ys, rfl, h1, h2, _, rfl⟩ := inv e
    obtain ⟨v, u, hv, r1, r2⟩ := h.two
    cases hv
    obtain ⟨a', vs, hv, hs, hr, _⟩ := seqK_read r1 hF hz h1
    cases hv
    obtain ⟨b', us, hv, hs2, hr2, _⟩ := seqK_read r2 hF hz h2
    cases hv
    unfold pairL at hi
    rw [List.getElem?_zipWith_eq_some] at hi
    obtain ⟨x, y, e1, e2, e3⟩ := hi
    obtain ⟨u1, k1, k2⟩ := hr.get e1
    obtain ⟨u2, k3, k4⟩ := hr2.get e2
    refine ⟨⟨vs, us, u1, u2, hs, hs2, k1, k3⟩, fun y' H' ⟨T, x1, y1, o, f1, f2, ⟨f3, f6⟩, f4, f5⟩ => .inr ⟨T, [x, y], [x1, y1], o, e3.symm, f1, f2, f3, ?_, by show 2 ≤ sizeLine; decide, f6⟩⟩
    have g1 := f4 vs hs
    rw [k1] at g1
    cases g1
    have g2 := f5 us hs2
    rw [k3] at g2
    cases g2
    exact .cons k2 (.cons k4 .nil)
  · obtain ⟨d1, d2, xs, ys, rfl, h1, h2, hl, rfl⟩ := inv e
    obtain ⟨v, u, hv, r1, r2⟩ := h.two
    cases hv
    obtain ⟨a', vs, hv, hs, hr, l1⟩ := seqK_read r1 hF hz h1
    cases hv
    obtain ⟨b', us, hv, hs2, hr2, l2⟩ := seqK_read r2 hF hz h2
    cases hv
    have m1 := hr.len
    have m2 := hr2.len
    have m : (pairL xs ys).length = min xs.length ys.length := by unfold pairL; rw [List.length_zipWith]
    refine ⟨⟨vs, us, hs, hs2, by omega, by omega, by omega, fun hst => ?_⟩, by omega⟩
    have := hl hst
    omega
end
section
variable {X : Cx} {a b : Expr} {t u : (OW S)} {ta : (AW S)} {p pos tpos kp kp2 : Pos} {elts : List Expr} {kk j : Nat}
def iEn (t : (AW S)) : (IW S) := fun ρ P => t ρ fun ks ρ1 => match ks with
  | [k] => gets ((k.rd ρ1).bind kindD) fun c => P ⟨[k], enumF c⟩ ρ1
  | _ => False
def iZp (st : Bool) (t : (AW S)) : (IW S) := fun ρ P => t ρ fun ks ρ1 => match ks with
  | [k, k2] => gets ((k.rd ρ1).bind kindD) fun c1 => gets ((k2.rd ρ1).bind kindD) fun c2 => P ⟨[k, k2], zipF st c1 c2⟩ ρ1
  | _ => False
theorem ci_enum (hm : X.mg "enumerate" = none) (ha : CA (S := S) X [a] ta) (hg : Gl X "enumerate" := by rfl) (hs : starEach [a] X.env = [(false, eval a X.env)] := by rfl) : CI (S := S) X (.Tuple elts kk tpos) (.Call (.Name "enumerate" p) [a] [] pos) (iEn ta) :=
  pi_mono (pi_e hg hm ha hs) fun σ H R ⟨B, pa, τ, F, ρ, θ, P, Rl, hl, h, q⟩ => by
    refine ⟨B, pa, τ, F, ρ, θ, _, Rl, hl, h, fun ks ρ1 vs H1 F1 h1 hl1 hk R1 s1 => ?_⟩
    cases ks with
    | nil => exact h1.elim
    | cons k ks =>
      cases ks with
      | cons _ _ => exact h1.elim
      | nil =>
        match vs, hk with
        | [v], _ =>
          obtain ⟨c, e, h1⟩ := gets_elim h1
          obtain ⟨d, e1, e2⟩ := Option.bind_eq_some_iff.mp e
          have hτ : τ.length = θ.length := by have := (R1.pops (by simp)).len; simp at this; omega
          have R2 : Rel X.K B pa (σ ++ (τ ++ [some v])) H1 F1 (ρ1.sl ++ (θ ++ [k.sl])) ρ1.pn := by
            have R3 := R1
            simp only [List.append_assoc] at R3
            exact R3
          have rd := read_at R2 hl1 τ.length (app_last _ _) (getN hτ.symm) (fun i q => s1 0 i v (by simp [q]) rfl) e1
          obtain ⟨a', xs, rfl, hs⟩ := kind_read rd R2.fh R2.sz e2
          exact ⟨a', c, xs, rfl, hs, q _ ρ1 [.ref a'] H1 F1 _ h1 hl1 rfl R1 s1 src_e⟩
theorem zip_step {K : Fg} {st : Bool} {ta : (AW S)} {σ : L2.St} {H : Hp} {R : It → Hp → Prop} (h : liftI K (iZp st ta) σ H R) : iZipC K st (liftA K ta) σ H R := by
  obtain ⟨B, pa, τ, F, ρ, θ, P, Rl, hl, h, q⟩ := h
  refine ⟨B, pa, τ, F, ρ, θ, _, Rl, hl, h, fun ks ρ1 vs H1 F1 h1 hl1 hk R1 s1 => ?_⟩
  match ks, vs, hk, h1, R1, s1 with
  | [k, k2], [v, v2], hk, h1, R1, s1 =>
    obtain ⟨c1, e, h1⟩ := gets_elim h1
    obtain ⟨c2, f, h1⟩ := gets_elim h1
    obtain ⟨d, e1, e2⟩ := Option.bind_eq_some_iff.mp e
    obtain ⟨d2, f1, f2⟩ := Option.bind_eq_some_iff.mp f
    have hτ : τ.length = θ.length := by have := (R1.pops (by simp)).len; simp at this; omega
    have R2 : Rel K B pa (σ ++ (τ ++ [some v, some v2])) H1 F1 (ρ1.sl ++ (θ ++ [k.sl, k2.sl])) ρ1.pn := by
      have R3 := R1
      simp only [List.append_assoc] at R3
      exact R3
    have rd := read_at R2 hl1 τ.length (by simp) (by rw [hτ]; simp) (fun i q => s1 0 i v (by simp [q]) rfl) e1
    have rd2 := read_at R2 hl1 (τ.length + 1) (by simp) (by rw [hτ]; simp) (fun i q => s1 1 i v2 (by simp [q]) rfl) f1
    obtain ⟨a', xs, rfl, hs⟩ := kind_read rd R2.fh R2.sz e2
    obtain ⟨b', ys, rfl, hs2⟩ := kind_read rd2 R2.fh R2.sz f2
    exact ⟨a', b', c1, c2, xs, ys, rfl, hs, hs2, q _ ρ1 _ H1 F1 _ h1 hl1 rfl R1 s1 src_z⟩
  | [], _, _, h1, _, _ => exact h1.elim
  | [_], _, _, h1, _, _ => exact h1.elim
  | _ :: _ :: _ :: _, _, _, h1, _, _ => exact h1.elim
theorem ci_zip (hm : X.mg "zip" = none) (ha : CA (S := S) X [a, b] ta) (hg : Gl X "zip" := by rfl) (hs : starEach [a, b] X.env = (false, eval a X.env) :: starEach [b] X.env := by rfl) (hpl : (backTo pos (starEach [b] X.env)).any (·.1) = false := by rfl) :
    CI (S := S) X (.Tuple elts kk tpos) (.Call (.Name "zip" p) [a, b] [] pos) (iZp false ta) := pi_mono (pi_z hg hm ha hs hpl) fun _ _ _ h => zip_step h
end
end Dk
namespace Dk
open PySem PySem.Spec PyProof.Rows L2
variable {S : Type} [StK S]
structure Dfn (K : Fg) (mg : Str → Option Value) (x : Str) (st : Stmt) (f : Addr) (fd : FuncData) : Prop where
  F : FunD K x x (defArgs st) (defBody st) (defScope st) [] [] f fd
  m : mg x = some (.ref f)
abbrev bltNames : List Str := ["len", "list", "tuple", "sum", "max", "min", "all", "any", "int", "abs", "repr", "isinstance", "range", "zip", "enumerate", "str", "bool", "dict", "set", "sorted"]
def Blt (mg : Str → Option Value) : Prop := ∀ x ∈ bltNames, mg x = none
theorem Blt.get {mg : Str → Option Value} (B : Blt mg) (x : Str) (h : x ∈ bltNames := by decide +kernel) : mg x = none := B x h
def oVal (t : (DW S)) : (OW S) := fun ρ P => t ρ fun r ρ' => P (.tmp (.val r.d)) ρ'
theorem co_val {X : Cx} {e : Expr} {t : (DW S)} (h : CE (S := S) X e t) : CO (S := S) X e (oVal t) := ce_cv h
def mkT (ds : List D) : Rs := .val (.tuple ds)
theorem FnD.mkD [NoTag S] {P : Program} {w : World} {K : Fg} {mg : Str → Option Value} {base : Heap} {x : Str} {st : Stmt} {f : Addr} {fd : FuncData} {N ps : List Str} {k : Nat} {dsp : DSp S} {t : (DS S)} (Fu : Dfn K mg x st f fd) (Sc : FnScope N ps (defScope st))
    (hbody : ∀ (cdv : Value) (A : Around) (outer : List Env) (s : Shared) (H : Hp) (E : XK), XO (cx0 P w K mg base N x (defScope st) f cdv A outer s H E) k → CSs (S := S) (cx0 P w K mg base N x (defScope st) f cdv A outer s H E) (defBody st) t)
    (hlaw : ∀ as pn Q, as.length = ps.length → dsp as pn Q → t { nx := fun ρ => Q .none ρ.pn, rt := Q } ⟨startD N.length as, pn⟩) : FnD P w K mg base (k + 1) f fd ps dsp := by
  obtain ⟨oc, od, dV, kV, doc, pm, an, cdv, ct, osl, rfl, lk, hcd, hD, _⟩ := Fu.F.ex
  refine fng_of lk hcd Sc (fun vs H Q E ⟨F, pa, T, as, pn, P, _, _, h, _, _, hl, _⟩ => by rw [h.len, hl]) fun A outer s H vs Q E hr hgd hsp => ?_
  obtain ⟨F, pa, T, as, pn, PQ, hz, hF, ha, hp, hpl', hl, hd, q⟩ := hsp
  have X0 : XO (cx0 P w K mg base N x (defScope st) f cdv A outer s H E) k := ⟨rfl, hr, hgd, Sc.nd, PassesOwn.never⟩
  refine ⟨_, (hbody cdv A outer s H E X0).nox, ⟨H, F, T⟩, pa, [], F, ⟨startD N.length as, pn⟩, [], _, by
    have h := rel_start (N := N) hz hF ha hp hpl'
    rw [List.append_nil, List.append_nil]
    exact h, by
      have hpl : ps.length ≤ N.length := by have := congrArg List.length Sc.pre; rw [List.length_take] at this; omega
      simp [L2.start, startD, ha.len], hlaw as pn PQ hl hd, ?_⟩
  exact ⟨fun σ ρ H' F' h _ _ R => rel_end q h (R.pushVal (d := .none) (v := .non) (DR.non_.mpr rfl)), fun _ _ _ _ h => h.elim, fun _ _ _ _ h => h.elim, fun zs ws d pn v H' F' h R => rel_end q h R, fun _ _ _ _ _ _ _ z => z.elim⟩
end Dk
namespace HT
open PySem PySem.Calls PySem.Spec PyProof.Rows
section
variable {prog : Program} {w : World} {A : Around} {E : Value → Shared → Prop} {s : Shared}
end
end HT
namespace Dk
open PySem PySem.Spec PyProof.Rows L2
variable {S : Type} [StK S]
section
variable {X : Cx} {e : Expr} {t : (OW S)} {k : Nat} {p1 p2 p3 pos : Pos}
def revD : D → Option Rs
  | .list ds => some (.own ds.reverse)
  | .tuple ds => some (.val (.tuple ds.reverse))
  | _ => none
@[simp] theorem revD_list {ds : List D} : revD (.list ds) = some (.own ds.reverse) := rfl
@[simp] theorem revD_tuple {ds : List D} : revD (.tuple ds) = some (.val (.tuple ds.reverse)) := rfl
theorem ce_dict0 : CE (S := S) X (.Dict [] [] pos) (dC (.dict [])) := pe_mono pe_dnewK fun σ H Q ⟨B, pa, τ, F, ρ, θ, P, R, hl, h, q⟩ => fun p hp => q _ _ (.ref p) _ _ h hl (R.pushDict hp) (fun j e => by cases e)
theorem tuple_mul1 (l : Addr) (items : Array Value) (n : Nat) (dd : Option Addr) (sl : Array (Option Value)) (u : Tok) :
    Meets (Builtin.«tuple.__mul__» ⟨[.ref l, .int 1 u], []⟩) (fun _ R s => s.heap.get? l = some { cls := .type "tuple", dict := dd, data := .seq items n, slots := sl } ∧ R (.ok (.ret (Value.ref l))) s) :=
  .of_wp fun prog w A R s h => by
    obtain ⟨hp, g, d, tk, os⟩ := s
    obtain ⟨hl, h⟩ := h
    have f1 := AutoSeq1.idx_int
    have c0 : ((1 : Int) < -(2 ^ 63) || (1 : Int) ≥ 2 ^ 63) = false := by decide
    wp_walk using wpAny_loadPart' hl
    repeat (first
      | (refine wpAny_ite_true (by simp) ?_; wp_walk using wpAny_loadPart' hl)
      | (refine wpAny_ite_false (by decide) ?_; wp_walk using wpAny_loadPart' hl))
    exact ⟨_, rfl, h⟩
theorem op_rep1 : OpR X (binaryOp .Mult) (fun x y H Q => ∃ l xs, x = .ref l ∧ y = .int 1 ∧ SqT X.K H l xs ∧ Q (.ref l) H) := by
  intro pins s σ H x y v u Q I rx ry h
  obtain ⟨l, xs, rfl, rfl, hT, q⟩ := h
  cases rx
  obtain ⟨t, rfl⟩ := ry
  obtain ⟨its, r, ⟨⟨cls, dd, data, sl⟩, ho, hc, n, hd⟩, hs⟩ := I.tuple hT
  simp only at hc hd
  subst hc hd
  exact wpAny_binaryOp_repeat_ref (T := "tuple") (U := "int") (by decide) ⟨_, ho, rfl⟩ (fun s' => typeIs_int s' 1 t) noFill_tuple_mul F.fills_int_mul F.slot_int_rmul repeat_tuple F.slot_int_index.lookup
    (call_meets F.slot_int_rmul (typeIs_int s 1 t) F.entry_int_rmul (F.args_int_rmul_2 _ _) (int_rmul_tuple 1 t l its.toArray n dd sl)
      ⟨ho, rfl, ⟨_, ho, rfl⟩, call_meets F.slot_tuple_mul ⟨_, ho, rfl⟩ F.entry_tuple_mul (F.args_tuple_mul_2 _ _) (tuple_mul1 l its.toArray n dd sl t) ⟨ho, .ref l, H, I, rfl, q⟩⟩)
def mulT : D → D → Option Rs
  | .tuple xs, .int k => if xs ≠ [] ∧ 1 ≤ k ∧ k ≤ 1000 ∧ xs.length ≤ 1000 then some (.val (.tuple (List.replicate k.toNat xs).flatten)) else none
  | a, b => mulD a b
theorem od_mulT : OpD X (binaryOp .Mult) mulT := by
  intro pins s σ H x y v u Q I rx ry ⟨F, d, e, r, ⟨hz0, hF⟩, hd, he, hg, q⟩
  unfold mulT at hg
  split at hg
  · split at hg
    · rename_i xs k hc
      cases hg
      by_cases hk : k = 1
      · subst hk
        have hdr : DR X.K F (.tuple xs) x := by
          rcases hd with hd | ⟨ds, a, vs, e, _⟩
          · exact hd
          · cases e
        obtain ⟨a, vs, rfl, ha, ra⟩ := (RdD.tuple hd hF : _)
        refine op_rep1 pins s σ H _ y v u Q I rx ry ⟨a, vs, rfl, he.int, ha, q.1 _ ?_⟩
        have e1 : (List.replicate (Int.toNat 1) xs).flatten = xs := by simp
        rw [e1]
        exact hdr
      · obtain ⟨a, vs, rfl, ha, ra⟩ := hd.tuple hF
        have hl := ra.len
        refine op_repC pins s σ H _ y v u Q I rx ry ⟨a, _, vs, rfl, he.int, ha, fun e => hc.1 (by subst e; exact List.length_eq_zero_iff.mp (by simpa using hl.symm)), by omega, hc.2.2.1, by rw [hl]; exact hc.2.2.2, q.2.1 _ _ rfl (ra.rep _) ?_⟩
        rw [len_rep, hl, sizeLine_eq]
        exact Nat.le_trans (show _ ≤ 1000 * 1000 from Nat.mul_le_mul (by omega) hc.2.2.2) (by omega)
    · cases hg
  · exact od_mul pins s σ H x y v u Q I rx ry ⟨F, d, e, r, ⟨hz0, hF⟩, hd, he, hg, q⟩
end
end Dk
namespace Dk
open PySem PySem.Spec PyProof.Rows L2
variable {S : Type}
def isPen (ρ : List Sl) (i : Nat) : Bool := match ρ[i]? with
  | some .pen => true
  | _ => false
theorem isPen_some {ρ : List Sl} {i : Nat} (h : isPen ρ i = true) : ρ[i]? = some .pen := by
  unfold isPen at h
  split at h
  · assumption
  · cases h
def scr? (ρ : List Sl) (i : Nat) : Option (List Int) := match ρ[i]? with
  | some (.scr ns) => some ns
  | _ => none
theorem scr?_some {ρ : List Sl} {i : Nat} {ns : List Int} (h : scr? ρ i = some ns) : ρ[i]? = some (.scr ns) := by
  unfold scr? at h
  split at h
  · cases h; assumption
  · cases h
def penD (p : Pen) : Int → Option D
  | 0 => some (.list (p.cells.map .int))
  | 1 => some (.int p.at_)
  | 2 => some (.int p.cur)
  | _ => none
def penSet (p : Pen) (z : Int) : Int → Option Pen
  | 1 => some { p with at_ := z }
  | 2 => some { p with cur := z }
  | _ => none
section
variable {K : Fg} {B : Bs} {pa : Option Addr} {zs : List (Option V)} {H F : Hp} {ws : List Sl}
theorem Rel.penR {S : Type} [PenK S] {pn : S} (R : Rel K B pa zs H F ws pn) : PenR K F H pa (PenK.get pn) := by
  obtain ⟨T, t⟩ := R.st
  exact (PenK.pen t.r).1
theorem Rel.penW {S : Type} [PenK S] {pn : S} {p : Pen} (R : Rel K B pa zs H F ws pn) {a c : Addr} (hp : pa = some a) (hH : H a = some (.lst [.ref c, .int p.at_, .int p.cur])) (hg : PenK.get pn = some p) (x y : Int) : Rel K B pa zs (upd H a (.lst [.ref c, .int x, .int y])) F ws (PenK.set (some { p with at_ := x, cur := y }) pn) := by
  obtain ⟨T, t⟩ := R.st
  obtain ⟨pr, pt⟩ := PenK.pen t.r
  rw [hg] at pr
  obtain ⟨a', c', q1, q2, q3, q4⟩ := pr
  rw [hp] at q1
  cases q1
  rw [hH] at q2
  cases q2
  have ht := pt a hp
  have hr : StK.R K pa (upd H a (.lst [.ref c, .int x, .int y])) F (PenK.set (some { p with at_ := x, cur := y }) pn) T :=
    PenK.up t.r (fun b _ n => upd_ne fun z => n (by rw [z]; exact hp)) (Le.refl _) t.fn ⟨a, c, hp, upd_same, q3, q4⟩
  refine R.called t (fun b u e n => ?_) (Le.refl _) (fun b u e => ?_) (fun b u e => .inl e) hr (fun b hb => .inl hb) (fun b hb => ?_) t.fn (fun b hb => ?_) (R.sz.upL (by show 3 ≤ sizeLine; decide)) (PenK.tagS _ _)
  · rw [upd_ne fun z => n (by rw [z]; exact ht)]; exact e
  · rw [upd_ne fun z => by rw [z, q3] at e; cases e]; exact R.fh _ _ e
  · by_cases e : b = a
    · rw [e, upd_same]; exact nofun
    · rw [upd_ne e]; exact t.hn b hb
  · by_cases e : b = a
    · rw [e, upd_same]; exact nofun
    · rw [upd_ne e]; exact hb
end
section
variable {S : Type} [PenK S] {X : Cx} {e : Expr} {k : Nat} {pos p1 p2 p3 : Pos} {te : (DW S)}
theorem pen_slot {S : Type} [StK S] {K : Fg} {B : Bs} {pa : Option Addr} {σ : L2.St} {τ : List (Option V)} {H F : Hp} {ρ θ : List Sl} {pn : S} {i : Nat} (R : Rel K B pa (σ ++ τ) H F (ρ ++ θ) pn) (hl : ρ.length = σ.length) (h : isPen ρ i = true) : ∃ a, pa = some a ∧ σ[i]? = some (some (.ref a)) := by
  have h := isPen_some h
  have hi := (List.getElem?_eq_some_iff.mp h).1
  obtain ⟨o, h1, a, h2, h3⟩ := R.sl i .pen (by rw [List.getElem?_append_left hi]; exact h)
  subst h3
  exact ⟨a, h2, left_get (by omega) h1⟩
def dPen (i : Nat) (j : Int) : (DW S) := fun ρ P => isPen ρ.sl i = true ∧ gets (PenK.get ρ.pn) fun p => gets (penD p j) fun d => P (.val d) ρ
theorem ce_pen (i : Nat) {x : Str} {j : Int} (hN : X.N[i]? = some x := by rfl) (hv : Vis X.env.scope x := by first | exact Or.inl rfl | exact Or.inr (Or.inl rfl) | exact Or.inr (Or.inr rfl)) (hd : (x == ("__debug__" : Str)) = false := by decide) (hcd : (x == ("__classdict__" : Str)) = false := by decide) :
    CE (S := S) X (.Subscript (.Name x p1) (.Constant (.int j) k p2) pos) (dPen i j) := pe_mono (pe_ix ix_list (pe_var hN hv hd hcd) pe_int (fun _ _ => rfl)) fun σ H Q h => by
  obtain ⟨B, pa, τ, F, ρ, θ, P, R, hl, ⟨h0, h⟩, q⟩ := toE h
  obtain ⟨p, hp, h⟩ := gets_elim h
  obtain ⟨d, hj, h⟩ := gets_elim h
  obtain ⟨a, ha, hs⟩ := pen_slot R hl h0
  have hpn : PenR X.K F H pa (PenK.get ρ.pn) := R.penR
  rw [hp] at hpn
  obtain ⟨a', c, q1, q2, q3, q4⟩ := hpn
  rw [ha] at q1
  cases q1
  have fin : ∀ w, DR X.K F d w → Q w H := fun w hw => q (.val d) ρ w H F h hl (R.pushVal hw)
  unfold penD at hj
  split at hj
  · cases hj
    exact ⟨.ref a, hs, a, _, _, .ref c, rfl, rfl, .inl (.inl q2), rfl, fin _ (DR.list_.mpr ⟨c, _, rfl, q4, DRs.of_ints _⟩)⟩
  · cases hj
    exact ⟨.ref a, hs, a, _, _, .int p.at_, rfl, rfl, .inl (.inl q2), rfl, fin _ (DR.int_.mpr rfl)⟩
  · cases hj
    exact ⟨.ref a, hs, a, _, _, .int p.cur, rfl, rfl, .inl (.inl q2), rfl, fin _ (DR.int_.mpr rfl)⟩
  · cases hj
def dPenSet (i : Nat) (j : Int) (te : (DW S)) : (DS S) := fun E ρ => te ρ fun r ρ1 => isPen ρ1.sl i = true ∧ gets (PenK.get ρ1.pn) fun p => gets (D.int? r.d) fun z => gets (penSet p z j) fun p' => E.nx { ρ1 with pn := PenK.set (some p') ρ1.pn }
theorem cs_setPen (i : Nat) {x : Str} {j : Int} (he : CE (S := S) X e te) (hN : X.N[i]? = some x := by rfl) (hv : Vis X.env.scope x := by first | exact Or.inl rfl | exact Or.inr (Or.inl rfl) | exact Or.inr (Or.inr rfl)) (hd : (x == ("__debug__" : Str)) = false := by decide) (hcd : (x == ("__classdict__" : Str)) = false := by decide)
    (hA : ∀ v, assign (.Subscript (.Name x p1) (.Constant (.int j) k p3) p2) X.env v = (do
      let ov ← holding [v] (eval (.Name x p1) X.env)
      let iv ← holding [v, ov] (eval (.Constant (.int j) k p3) X.env)
      standAt p2
      holding [v, ov, iv] (setItem ov iv v)
      release [v, ov, iv] []) := by intro _; rfl)
    (hs : swapsWithSole [.Subscript (.Name x p1) (.Constant (.int j) k p3) p2] e pos.line X.env = pure false := by rfl) (hw : swappedStores [.Subscript (.Name x p1) (.Constant (.int j) k p3) p2] e X.env = pure none := by rfl) (hq : (assignEach [.Subscript (.Name x p1) (.Constant (.int j) k p3) p2] X.env).map (·.2) = [assign (.Subscript (.Name x p1) (.Constant (.int j) k p3) p2) X.env] := by rfl) :
    CS (S := S) X (.Assign [.Subscript (.Name x p1) (.Constant (.int j) k p3) p2] e pos) (dPenSet i j te) :=
  ps_mono (ps_asg he (pg_sub (pe_var hN hv hd hcd) pe_int set_list hA) hs hw hq) fun Z σ H ⟨B, pa, τ, F, ρ, θ, E, R, hl, h, q⟩ =>
    ofE ⟨B, pa, τ, F, ρ, θ, _, R, hl, h, fun r ρ1 v H1 F1 h1 l1 R1 => by
      obtain ⟨F2, _, R2⟩ := freezeLast R1
      obtain ⟨h0, h1⟩ := h1
      obtain ⟨p, hp, h1⟩ := gets_elim h1
      obtain ⟨z, hz, h1⟩ := gets_elim h1
      obtain ⟨p', hp', h1⟩ := gets_elim h1
      have ez := D.int?_some hz
      rw [ez] at R2
      obtain ⟨⟨v', e', hv'⟩, _⟩ := Rel.last (s := .val (.int z)) R2
      cases e'
      have ev := DR.int_.mp hv'
      subst ev
      have R3 := R2.pop
      obtain ⟨a, ha, hsl⟩ := pen_slot R3 l1 h0
      have hpn : PenR X.K F2 H1 pa (PenK.get ρ1.pn) := R3.penR
      rw [hp] at hpn
      obtain ⟨a', c, q1, q2, q3, q4⟩ := hpn
      rw [ha] at q1
      cases q1
      unfold penSet at hp'
      split at hp'
      · cases hp'
        exact ⟨.ref a, hsl, a, _, _, 1, rfl, rfl, q2, rfl, q.nx σ { ρ1 with pn := PenK.set (some { p with at_ := z }) ρ1.pn } _ F2 h1 rfl l1 (R3.penW ha q2 hp z p.cur)⟩
      · cases hp'
        exact ⟨.ref a, hsl, a, _, _, 2, rfl, rfl, q2, rfl, q.nx σ { ρ1 with pn := PenK.set (some { p with cur := z }) ρ1.pn } _ F2 h1 rfl l1 (R3.penW ha q2 hp p.at_ z)⟩
      · cases hp'⟩
def dScr (i : Nat) (lo hi : (PW_ S)) : (DW S) := fun ρ P => (scr? ρ.sl i).isSome = true ∧ lo ρ fun l ρ2 => hi ρ2 fun h ρ3 => gets (scr? ρ3.sl i) fun ns => P (.own (cutD (ns.map .int) l h)) ρ3
theorem ce_scr (i : Nat) {x : Str} {lo hi : Option Expr} {tl th : (PW_ S)} (hl : CP (S := S) X lo tl) (hh : CP (S := S) X hi th) (hN : X.N[i]? = some x := by rfl) (hv : Vis X.env.scope x := by first | exact Or.inl rfl | exact Or.inr (Or.inl rfl) | exact Or.inr (Or.inr rfl)) (hd : (x == ("__debug__" : Str)) = false := by decide) (hcd : (x == ("__classdict__" : Str)) = false := by decide) :
    CE (S := S) X (.Subscript (.Name x p1) (.Slice lo hi none p2) pos) (dScr i tl th) := pe_mono (pe_slice sl_list (pe_var hN hv hd hcd) hl hh) fun σ H Q h => by
  obtain ⟨B, pa, τ, F, ρ, θ, P, R, hl, ⟨h0, h⟩, q⟩ := toE h
  have at_ : ∀ {H F : Hp} {ρ : (En S)} {ns : List Int}, Rel X.K B pa (σ ++ τ) H F (ρ.sl ++ θ) ρ.pn → ρ.sl.length = σ.length → scr? ρ.sl i = some ns → ∃ a, σ[i]? = some (some (.ref a)) ∧ SqL X.K H a (ns.map .int) := fun {H F ρ ns} R hl h => by
    have h := scr?_some h
    have hi := (List.getElem?_eq_some_iff.mp h).1
    obtain ⟨o, h1, a, h2, h3⟩ := R.sl i (.scr ns) (by rw [List.getElem?_append_left hi]; exact h)
    subst h2
    exact ⟨a, left_get (by omega) h1, R.scrH h3⟩
  obtain ⟨ns0, e0⟩ := Option.isSome_iff_exists.mp h0
  obtain ⟨a, s0, _⟩ := at_ R hl e0
  refine ⟨.ref a, s0, B, pa, τ, F, ρ, θ, _, R, hl, h, fun l ρ2 H2 F2 h2 hl2 R2 => ?_⟩
  refine ⟨B, pa, τ, F2, ρ2, θ, _, R2, hl2, h2, fun u ρ3 H3 F3 h3 hl3 R3 => ?_⟩
  obtain ⟨ns, e1, h3⟩ := gets_elim h3
  obtain ⟨a', s1, hs⟩ := at_ R3 hl3 e1
  rw [s0] at s1
  cases s1
  refine ⟨a, _, rfl, hs, fun p hp => ?_⟩
  have hd : DRs X.K F3 (cutD (ns.map .int) l u) (cutV (ns.map .int) l u) := (DRs.of_ints ns).cut l u
  have hz : (cutV (ns.map V.int) l u).length ≤ sizeLine := by
    refine Nat.le_trans (cutV_length _ l u) ?_
    rcases hs with hs | ⟨o, its, n, _, _, _, _, hz, r⟩
    · rcases hs with hs | ⟨o, hs⟩
      · exact R3.sz a _ (.inl hs)
      · exact R3.sz a _ (.inr (.inl ⟨o, hs⟩))
    · have := r.length
      simp at this hz ⊢
      omega
  exact q (.own (cutD (ns.map .int) l u)) ρ3 _ _ F3 h3 hl3 (R3.pushOwn hp hd hz)
end
end Dk
namespace Dk
open PySem PySem.Spec PyProof.Rows L2
def penL (cells : List Int) : D := .list [.list (cells.map .int), .int 0, .int 0]
def law0 (n : Nat) : List Sl := (List.replicate n .un).set 1 .pen
def spLaw (K : Fg) : Sp := fun vs H Q _ => ∃ (a : Addr) (ns : List Int), vs = [.ref a] ∧ SqL K H a (ns.map V.int) ∧ Szs H ∧ ∀ H', Q (.bl true) H'
theorem adopt {K : Fg} {H H2 F2 : Hp} {σ : L2.St} {n : Nat} {ns cells : List Int} (hn : 2 ≤ n) {T : Addr → Prop} (R : Rel K ⟨H, fun _ => none, T⟩ none σ H2 F2 ((startD n [.scr ns]).set 1 (.val (penL cells))) (none : Option Pen)) :
    ∃ p F', Rel K ⟨fun _ => none, fun _ => none, fun _ => False⟩ (some p) σ H2 F' (law0 n) (some ⟨cells, 0, 0⟩ : Option Pen) := by
  have hl : (startD n [.scr ns]).length = n := by simp [startD]; omega
  obtain ⟨o, h1, v, rfl, hd⟩ := R.sl 1 (.val (penL cells)) (by rw [List.getElem?_set_self (by omega)])
  obtain ⟨p, vs, rfl, hp, hr⟩ := DR.list_.mp hd
  obtain ⟨v1, r1, rfl, d1, hr⟩ := DRs.cons_.mp hr
  obtain ⟨v2, r2, rfl, d2, hr⟩ := DRs.cons_.mp hr
  obtain ⟨v3, r3, rfl, d3, hr⟩ := DRs.cons_.mp hr
  cases DRs.nil_.mp hr
  cases DR.int_.mp d2
  cases DR.int_.mp d3
  obtain ⟨c, us, rfl, hc, hu⟩ := DR.list_.mp d1
  have eu := DRs.ints hu
  subst eu
  have hpc : p ≠ c := fun e => by
    rw [e, hc] at hp
    cases cells with
    | nil => cases hp
    | cons x r => cases hp
  refine ⟨p, fun b => if b = c then some (.lst (cells.map V.int)) else none, ?_⟩
  have noown : ∀ (i : Nat) (xs : List D), (law0 n)[i]? ≠ some (.own xs) := fun i xs e1 => by
    unfold law0 at e1
    by_cases hi : i = 1
    · subst hi
      rw [List.getElem?_set_self (by rw [List.length_replicate]; omega)] at e1
      cases e1
    · rw [List.getElem?_set_ne (Ne.symm hi), List.getElem?_replicate] at e1
      split at e1 <;> cases e1
  refine ⟨by rw [R.len]; simp [law0, hl], fun b o e => ?_, fun b o e => (nomatch e), fun b o e => (nomatch e), fun b o e => .inr (.inl rfl), fun i s e => ?_, fun i j xs ys a e1 => absurd e1 (noown i xs), ⟨fun b => some p = some b, ⟨⟨p, c, rfl, R.fh _ _ hp, if_neg hpc, if_pos rfl⟩, rfl⟩, fun b hb => ?_, fun b hb => ?_, fun b hb => .inl rfl, fun i xs a e1 _ => absurd e1 (noown i xs)⟩, fun a e => e.elim, R.sz, fun r e => nomatch e⟩
  · by_cases hb : b = c
    · rw [if_pos hb] at e
      cases e
      rw [hb]
      exact R.fh _ _ hc
    · rw [if_neg hb] at e
      cases e
  · unfold law0 at e
    by_cases hi : i = 1
    · subst hi
      rw [List.getElem?_set_self (by rw [List.length_replicate]; omega)] at e
      cases e
      exact ⟨_, h1, p, rfl, rfl⟩
    · rw [List.getElem?_set_ne (Ne.symm hi), List.getElem?_replicate] at e
      split at e
      · rename_i hlt
        cases e
        have : i < σ.length := by rw [R.len]; simp [hl]; exact hlt
        exact ⟨σ[i], List.getElem?_eq_getElem this, trivial⟩
      · cases e
  · cases hb
    rw [R.fh _ _ hp]
    exact nofun
  · cases hb
    exact if_neg hpc
theorem law_mk {P : Program} {w : World} {K : Fg} {mg : Str → Option Value} {base : Heap} {x : Str} {st s0 : Stmt} {rest : List Stmt} {f : Addr} {fd : FuncData} {N : List Str} {p0 : Str} {k : Nat} {sOpen : DSp} {u : DS} (Fu : Dfn K mg x st f fd) (S : FnScope N [p0] (defScope st))
    (hb : defBody st = s0 :: rest) (hn : 2 ≤ N.length)
    (h0 : ∀ (cdv : Value) (A : Around) (outer : List Env) (s : Shared) (H : Hp) (E : XK), XO (cx0 P w K mg base N x (defScope st) f cdv A outer s H E) k → CS (cx0 P w K mg base N x (defScope st) f cdv A outer s H E) s0 (dSet 1 (dCall 1 sOpen (aCons (oSlot 0) aNil))))
    (hr : ∀ (cdv : Value) (A : Around) (outer : List Env) (s : Shared) (H : Hp) (E : XK), XO (cx0 P w K mg base N x (defScope st) f cdv A outer s H E) k → CSs (cx0 P w K mg base N x (defScope st) f cdv A outer s H E) rest u)
    (hopen : ∀ (ns : List Int) (Q : D → Option Pen → Prop), (∀ cells, Q (penL cells) none) → sOpen [.scr ns] none Q)
    (hlaw : ∀ cells : List Int, u { nx := fun _ => False, rt := fun d _ => d = .bool true } ⟨law0 N.length, some ⟨cells, 0, 0⟩⟩) : FnG P w K mg base CX0 (k + 1) f fd [p0] (spLaw K) := by
  obtain ⟨oc, od, dV, kV, doc, pm, an, cdv, ct, osl, rfl, lk, hcd, hD, _⟩ := Fu.F.ex
  refine fng_of lk hcd S (fun vs H Q E ⟨a, ns, e, _⟩ => by rw [e]; rfl) fun A outer s H vs Q E hroom hgd hsp => ?_
  obtain ⟨a, ns, rfl, hS, hz, q⟩ := hsp
  have X0 : XO (cx0 P w K mg base N x (defScope st) f cdv A outer s H E) k := ⟨rfl, hroom, hgd, S.nd, PassesOwn.never⟩
  have hw := pss_cons (h0 cdv A outer s H E X0) (hr cdv A outer s H E X0)
  rw [← hb] at hw
  refine ⟨_, hw.nox, ?_⟩
  have hl : (startD N.length [.scr ns]).length = N.length := by simp [startD]; omega
  have hS2 : ScrR K H (fun b => (none : Option Addr) = some b) a ns := by
    rcases hS with hS | hS
    · exact .inl ⟨hS, nofun⟩
    · exact .inr (.inr hS)
  have R0 : Rel K ⟨H, fun _ => none, fun b => (none : Option Addr) = some b⟩ none (L2.start N [.ref a]) H (fun _ => none) (startD N.length [.scr ns]) (none : Option Pen) :=
    rel_start hz (fun b o e => (nomatch e)) ⟨.ref a, [], rfl, ⟨a, rfl, hS2⟩, rfl⟩ ⟨trivial, rfl⟩ (fun a e => (nomatch e))
  refine ⟨⟨H, fun _ => none, fun b => (none : Option Addr) = some b⟩, none, [], fun _ => none, ⟨startD N.length [.scr ns], none⟩, [], { nx := fun ρ1 => ∃ cells, ρ1 = ⟨(startD N.length [.scr ns]).set 1 (.val (penL cells)), none⟩, rt := fun _ _ => False }, ?_, by simp [hl, L2.start]; omega, ?_, ?_⟩
  · rw [List.append_nil, List.append_nil]
    exact R0
  · have hget : (startD N.length [.scr ns])[0]? = some (.scr ns) := by simp [startD, Arg.sl]
    show hasS (startD N.length [.scr ns]) 0 = true ∧ _
    refine ⟨by unfold hasS; rw [hget], ?_⟩
    show gets (toArgs (⟨startD N.length [.scr ns], none⟩ : En) [.slot 0]) fun as => as.length = 1 ∧ sOpen as none fun d pn' => ∃ cells, (⟨(startD N.length [.scr ns]).set 1 (.val d), pn'⟩ : En) = ⟨(startD N.length [.scr ns]).set 1 (.val (penL cells)), none⟩
    have e : toArgs (⟨startD N.length [.scr ns], none⟩ : En) [.slot 0] = some [.scr ns] := by
      show (((startD N.length [.scr ns])[0]?).bind slArg).bind (fun a => (some []).bind fun as => some (a :: as)) = _
      rw [hget]
      rfl
    rw [e]
    exact ⟨rfl, hopen ns _ fun cells => ⟨cells, rfl⟩⟩
  · refine ⟨fun σ ρ H2 F2 h l1 l2 R => ?_, fun _ _ _ _ h => h.elim, fun _ _ _ _ h => h.elim, fun _ _ _ _ _ _ _ h => h.elim, fun _ _ _ _ _ _ _ h => h.elim⟩
    obtain ⟨cells, rfl⟩ := h
    rw [List.append_nil, List.append_nil] at R
    obtain ⟨p, F', R'⟩ := adopt hn R
    refine ⟨⟨fun _ => none, fun _ => none, fun _ => False⟩, some p, [], F', ⟨law0 N.length, some ⟨cells, 0, 0⟩⟩, [], _, by rw [List.append_nil, List.append_nil]; exact R', by rw [R'.len], hlaw cells, ?_⟩
    refine ⟨fun _ _ _ _ h => h.elim, fun _ _ _ _ h => h.elim, fun _ _ _ _ h => h.elim, fun zs ws d pn v H3 F3 h R3 => ?_, fun _ _ _ _ _ _ _ h => h.elim⟩
    have h : d = .bool true := h
    subst h
    obtain ⟨⟨v', e', hd⟩, _⟩ := Rel.last (s := .val (.bool true)) R3
    cases e'
    rw [DR.bl_.mp hd]
    exact q H3
end Dk
namespace Dk
open PySem PySem.Spec PyProof.Rows L2
section
variable {P : Program} {w : World} {K : Fg} {mg mb : Str → Option Value} {k : Nat} {fa a : Addr} {fd : FuncData} {x : Str} {s : Shared} {vs : List Value} {ns : List Int}
def scriptH (K : Fg) (a : Addr) (vs : List Value) (ns : List Int) : Hp := fun b => if b = a ∧ K.lookup a = none then some (.frz { cls := .type "list", data := .seq vs.toArray } (.lst (ns.map V.int))) else none
theorem scriptH_some {b : Addr} {o : HO} (h : scriptH K a vs ns b = some o) : b = a ∧ K.lookup a = none ∧ o = .frz { cls := .type "list", data := .seq vs.toArray } (.lst (ns.map V.int)) := by
  unfold scriptH at h
  split at h
  · rename_i c
    cases h
    exact ⟨c.1, c.2, rfl⟩
  · cases h
theorem law_end (KX : K.In s.heap) (hns : s.heap.Ns mainGlobals mg) (hb : s.heap.Ns builtinsNs mb) (hbb : ∀ x : Str, x ≠ "__name__" → mb x = bootBuiltins x) (hlim : s.heap.NoLimit) (hg : s.gens = #[])
    (ha : s.heap.get? a = some { cls := .type "list", data := .seq vs.toArray }) (hi : IntsAre vs ns) (hl : ns.length ≤ sizeLine) (hr : Room k callerA)
    (F : ∀ base : Heap, K.In base → base.Ns mainGlobals mg → FnG P w K mg base CX0 k fa fd [x] (spLaw K)) (hbind : ∀ (s : Shared) (u : Value), BindsTo s fd ⟨[u], []⟩ [(x, u)]) :
    codeAny (model P w) callerA (.call (.ref fa) ⟨[.ref a], []⟩) (fun r s' => r = .ok (.ret (.bool true)) ∧ OldK s.heap s'.heap ∧ s'.os = s.os ∧ AllBare s'.gens) s := by
  have hok : HOk P w (scriptH K a vs ns) s.heap := fun b o h => by
    obtain ⟨rfl, _, rfl⟩ := scriptH_some h
    exact ⟨ha, by rw [List.length_map]; exact hl, vs, _, vals_ints hi, ha⟩
  have hS : SqL K (scriptH K a vs ns) a (ns.map V.int) := by
    cases q : K.lookup a with
    | none => exact .inl (.inr ⟨{ cls := .type "list", data := .seq vs.toArray }, if_pos ⟨rfl, q⟩⟩)
    | some o =>
      have e := KX a o q
      rw [ha] at e
      cases e
      exact .inr ⟨_, vs.toArray, _, q, rfl, rfl, rfl, by rw [List.size_toArray, hi.length]; exact hl, by simpa using vals_ints hi⟩
  have seq : ∀ {b : Addr} {o : Obj}, s.heap.get? b = some o → scriptH K a vs ns b ≠ none → ∃ us n, o.data = .seq us n := fun {b o} e h => by
    obtain ⟨u, hu⟩ := Option.ne_none_iff_exists'.mp h
    obtain ⟨rfl, _, _⟩ := scriptH_some hu
    rw [ha] at e
    cases e
    exact ⟨_, _, rfl⟩
  have keep : ∀ {b : Addr} {o : Obj}, s.heap.get? b = some o → scriptH K a vs ns b = none → (hidT s.heap (scriptH K a vs ns)).get? b = some o := fun e n => hidT_get e n
  have nsK : ∀ {b : Addr} {m : Str → Option Value}, s.heap.Ns b m → (hidT s.heap (scriptH K a vs ns)).Ns b m := fun {b m} ⟨o, es, ep, e, d, r⟩ => ⟨o, es, ep, keep e (by
    cases q : scriptH K a vs ns b with
    | none => rfl
    | some u =>
      obtain ⟨us, n, h⟩ := seq e (by rw [q]; simp)
      rw [d] at h
      cases h), d, r⟩
  have KB : K.In (hidT s.heap (scriptH K a vs ns)) := fun b o e => keep (KX b o e) (by
    cases q : scriptH K a vs ns b with
    | none => rfl
    | some u =>
      obtain ⟨rfl, h, _⟩ := scriptH_some q
      rw [h] at e
      cases e)
  have M : Mod K mg (hidT s.heap (scriptH K a vs ns)) := ⟨KB, nsK hns, ⟨mb, nsK hb, hbb⟩, let ⟨mc, h1, h2⟩ := hlim; ⟨mc, nsK h1, h2⟩⟩
  have E : Env0 P w K mg (hidT s.heap (scriptH K a vs ns)) callerA [] s (scriptH K a vs ns) :=
    ⟨rfl, M, fun b o e => of_hidT e, Nat.le_of_eq (hidT_size _ _), trivial, fun b hb => (by cases hb), hok, .of_eq hg⟩
  refine codeAny_mono ((F _ KB (nsK hns)).run callerA [] s (scriptH K a vs ns) ⟨[.ref a], []⟩ [.ref a] [.ref a] (fun v _ => v = .bl true) (fun _ _ _ => False) hr rfl E (hbind s (.ref a)) (.cons rfl .nil) ⟨a, ns, rfl, hS, szs_of hok, fun _ => rfl⟩) fun r s' h => ?_
  cases r with
  | error e => exact (show False from h).elim
  | ok fl =>
    cases fl with
    | next => exact (show False from h).elim
    | brk => exact (show False from h).elim
    | cont => exact (show False from h).elim
    | ret u =>
      obtain ⟨v, H', h1, h2, un, hok', rv, hv⟩ := h
      have hv : v = .bl true := hv
      subst hv
      have eu : u = Value.bool true := rv
      subst eu
      refine ⟨rfl, OldK.of_keep fun b o e => ?_, h1, h2⟩
      cases q : scriptH K a vs ns b with
      | none => exact un.keep b o e q (fun z => by cases z) (by simp)
      | some u =>
        obtain ⟨rfl, _, rfl⟩ := scriptH_some q
        rw [ha] at e
        cases e
        exact (hok' b _ (un.frzs b _ _ q)).1
end
theorem walk_law {l : PySem.W.OpenLaw} {n k : Nat} {q : Program} {loose : List Str} {XP : (Str → Option Value) → Heap → Prop} {YP : World → Heap → Prop} {d : DefRec} {x : Str}
    (hn : l.most = some n) (hn2 : n ≤ sizeLine) (hdf : d.params.defaults = []) (hr : Room k callerA)
    (F : ∀ (w : World) (mg : Str → Option Value) (fa : Addr) (h : Heap), YP w h → h.Ns mainGlobals mg → mg d.name = some (.ref fa) →
      ∃ (K : Fg) (fd : FuncData), K.In h ∧ (∀ (s : Shared) (u : Value), BindsTo s fd ⟨[u], []⟩ [(x, u)]) ∧
        ∀ base : Heap, K.In base → base.Ns mainGlobals mg → FnG l.prog w K mg base CX0 k fa fd [x] (spLaw K)) :
    PySem.W.WalkO q loose XP YP l.row.toRowW d [] (fun f vs => PySem.call f vs) := by
  refine Att.attach_call hn hdf fun w s₀ s₁ mg mb fa o pm cd doc a vs ns G Y ho hd hcd hmg hobj hints hlen hg => ?_
  obtain ⟨K, fd, KX, hb, hF⟩ := F w mg fa _ Y G.T.g hmg
  exact law_end KX G.T.g G.T.b G.T.builtins G.T.nolimit hg hobj hints (Nat.le_trans hlen hn2) hr hF hb
end Dk
namespace Dk
open PySem PySem.Spec PyProof.Rows L2
variable {S : Type} [StK S]
def rdS : List Sl → Nat → Option D
  | [], _ => none
  | s :: _, 0 => s.rd
  | _ :: l, n + 1 => rdS l n
theorem rdS_eq : ∀ (l : List Sl) (i : Nat), (l[i]?).bind Sl.rd = rdS l i
  | [], _ => rfl
  | s :: l, 0 => rfl
  | s :: l, n + 1 => by rw [rdS, ← rdS_eq l n]; rfl
def argS : List Sl → Nat → Option Arg
  | [], _ => none
  | s :: _, 0 => slArg s
  | _ :: l, n + 1 => argS l n
theorem argS_eq : ∀ (l : List Sl) (i : Nat), (l[i]?).bind slArg = argS l i
  | [], _ => rfl
  | s :: l, 0 => rfl
  | s :: l, n + 1 => by rw [argS, ← argS_eq l n]; rfl
section
variable {ρ : List Sl} {d : D} {r : Rs} {xs ds : List D} {i j : Int} {n : Nat} {x y : Str} {b : Bool}
@[simp] theorem v_hasS : hasS ρ n = match ρ[n]? with
  | some .un => false
  | some _ => true
  | none => false := rfl
@[simp] theorem v_own? : own? ρ n = match ρ[n]? with
  | some (.own xs) => some xs
  | _ => none := rfl
@[simp] theorem v_isPen : isPen ρ n = match ρ[n]? with
  | some .pen => true
  | _ => false := rfl
@[simp] theorem v_scr? : scr? ρ n = match ρ[n]? with
  | some (.scr ns) => some ns
  | _ => none := rfl
@[simp] theorem v_rd_bt {ρ : En S} : Tk.rd ρ (.bt xs) = some (.list xs) := rfl
@[simp] theorem v_srd_val : Sl.rd (.val d) = some d := rfl
@[simp] theorem v_srd_own : Sl.rd (.own xs) = some (.list xs) := rfl
@[simp] theorem v_srd_bor : Sl.rd (.bor xs) = some (.list xs) := rfl
@[simp] theorem v_d_val : Rs.d (.val d) = d := rfl
@[simp] theorem v_d_own : Rs.d (.own xs) = .list xs := rfl
@[simp] theorem v_sl_val : Rs.sl (.val d) = .val d := rfl
@[simp] theorem v_sl_own : Rs.sl (.own xs) = .own xs := rfl
@[simp] theorem v_bl_d : Rs.d (bl b) = .bool b := rfl
@[simp] theorem v_ri_d : Rs.d (ri i) = .int i := rfl
@[simp] theorem v_bl_sl : Rs.sl (bl b) = .val (.bool b) := rfl
@[simp] theorem v_ri_sl : Rs.sl (ri i) = .val (.int i) := rfl
@[simp] theorem v_mkT_d : Rs.d (mkT ds) = .tuple ds := rfl
@[simp] theorem v_mkT_sl : Rs.sl (mkT ds) = .val (.tuple ds) := rfl
@[simp] theorem v_bool : D.bool? (.bool b) = some b := rfl
@[simp] theorem v_Rsb : Rs.b? r = D.bool? r.d := rfl
@[simp] theorem v_lt : ltD (.int i) (.int j) = some (bl (decide (i < j))) := rfl
@[simp] theorem v_le : leD (.int i) (.int j) = some (bl (decide (i ≤ j))) := rfl
@[simp] theorem v_gt : gtD (.int i) (.int j) = some (bl (decide (j < i))) := rfl
@[simp] theorem v_ge : geD (.int i) (.int j) = some (bl (decide (j ≤ i))) := rfl
@[simp] theorem v_addI : addD (.int i) (.int j) = some (ri (i + j)) := rfl
@[simp] theorem v_addL {ys : List D} : addD (.list xs) (.list ys) = if xs.length + ys.length ≤ sizeLine then some (.own (xs ++ ys)) else none := rfl
@[simp] theorem v_addT {ys : List D} : addD (.tuple xs) (.tuple ys) = if xs.length + ys.length ≤ sizeLine then some (.val (.tuple (xs ++ ys))) else none := rfl
@[simp] theorem v_sub : subD (.int i) (.int j) = some (ri (i - j)) := rfl
@[simp] theorem v_mulI : mulT (.int i) (.int j) = if CMulW i j then some (ri (i * j)) else none := rfl
@[simp] theorem v_mulTup : mulT (.tuple xs) (.int i) = if xs ≠ [] ∧ 1 ≤ i ∧ i ≤ 1000 ∧ xs.length ≤ 1000 then some (.val (.tuple (List.replicate i.toNat xs).flatten)) else none := rfl
@[simp] theorem v_fdiv : fdivD (.int i) (.int j) = if CDivW i j then some (ri (i / j)) else none := rfl
@[simp] theorem v_mod : modD (.int i) (.int j) = if 0 < j then some (ri (i % j)) else none := rfl
@[simp] theorem v_pow : powD (.int i) (.int j) = if CPow i j then some (ri (i ^ j.toNat)) else none := rfl
@[simp] theorem v_neg : negD (.int i) = some (ri (-i)) := rfl
@[simp] theorem v_ixL : ixD (.list xs) (.int i) = (atI xs i).map .val := rfl
@[simp] theorem v_ixT : ixD (.tuple xs) (.int i) = (atI xs i).map .val := rfl
@[simp] theorem v_slL {l h : Option Int} : slD (.list xs) l h = some (.own (cutD xs l h)) := rfl
@[simp] theorem v_slT {l h : Option Int} : slD (.tuple xs) l h = some (.val (.tuple (cutD xs l h))) := rfl
@[simp] theorem v_lenL : lenD [.list xs] = some (ri xs.length) := rfl
@[simp] theorem v_lenT : lenD [.tuple xs] = some (ri xs.length) := rfl
@[simp] theorem v_listL : listD [.list xs] = some (.own xs) := rfl
@[simp] theorem v_listT : listD [.tuple xs] = some (.own xs) := rfl
@[simp] theorem v_tupleL : tupleD [.list xs] = some (.val (.tuple xs)) := rfl
@[simp] theorem v_tupleT : tupleD [.tuple xs] = some (.val (.tuple xs)) := rfl
@[simp] theorem v_intI : intD [.int i] = some (ri i) := rfl
@[simp] theorem v_intB : intD [.bool b] = some (ri (if b then 1 else 0)) := rfl
@[simp] theorem v_sumL : sumD [.list ds] = (ints? ds).map fun ns => ri ns.sum := rfl
@[simp] theorem v_allL : allD [.list ds] = (bls? ds).map fun bs => bl (bs.all id) := rfl
@[simp] theorem v_maxL : maxD [.list ds] = (ints? ds).bind fun ns => (maxI ns).map ri := rfl
@[simp] theorem v_max2 : maxD [.int i, .int j] = some (ri (max i j)) := rfl
@[simp] theorem v_eq {e : D} : eqD d e = if eqOk d e = true then some (bl (PyData.eqv d e)) else none := rfl
@[simp] theorem v_ne {e : D} : neD d e = if eqOk d e = true then some (bl (!PyData.eqv d e)) else none := rfl
@[simp] theorem v_is {nb : Bool} : isD nb d .none = some (bl (if nb then !isNone d else isNone d)) := rfl
@[simp] theorem v_vals_nil : vals [] = some [] := rfl
@[simp] theorem v_vals_cons {ks : List Tk} : vals (.tmp (.val d) :: ks) = (vals ks).bind fun ds => some (d :: ds) := rfl
@[simp] theorem v_rds_cons {ρ : En S} {k : Tk} {ks : List Tk} : rds ρ (k :: ks) = (k.rd ρ).bind fun d => (rds ρ ks).bind fun ds => some (d :: ds) := rfl
@[simp] theorem v_toArgs_nil {ρ : En S} : toArgs ρ [] = some [] := rfl
@[simp] theorem v_toArgs_cons {ρ : En S} {k : Tk} {ks : List Tk} : toArgs ρ (k :: ks) = (toArg ρ k).bind fun a => (toArgs ρ ks).bind fun as => some (a :: as) := rfl
@[simp] theorem v_toArg_tmp {ρ : En S} : toArg ρ (.tmp (.val d)) = some (.val d) := rfl
@[simp] theorem v_slArg_val : slArg (.val d) = some (.val d) := rfl
@[simp] theorem v_slArg_own : slArg (.own xs) = some (.bor xs) := rfl
@[simp] theorem v_slArg_bor : slArg (.bor xs) = some (.bor xs) := rfl
@[simp] theorem v_slArg_pen : slArg .pen = some .pen := rfl
@[simp] theorem v_asl_val : Arg.sl (.val d) = .val d := rfl
@[simp] theorem v_asl_bor : Arg.sl (.bor xs) = .bor xs := rfl
@[simp] theorem v_asl_pen : Arg.sl .pen = .pen := rfl
@[simp] theorem v_asl_scr {ns : List Int} : Arg.sl (.scr ns) = .scr ns := rfl
@[simp] theorem v_startD {as : List Arg} : startD n as = as.map Arg.sl ++ List.replicate (n - as.length) .un := rfl
@[simp] theorem v_pen0 {p : Pen} : penD p 0 = some (.list (p.cells.map .int)) := rfl
@[simp] theorem v_pen1 {p : Pen} : penD p 1 = some (.int p.at_) := rfl
@[simp] theorem v_pen2 {p : Pen} : penD p 2 = some (.int p.cur) := rfl
@[simp] theorem v_pset1 {p : Pen} : penSet p i 1 = some { p with at_ := i } := rfl
@[simp] theorem v_pset2 {p : Pen} : penSet p i 2 = some { p with cur := i } := rfl
@[simp] theorem v_atI0 : atI (d :: ds) 0 = some d := by
  unfold atI ixN
  rw [if_pos (by decide), if_pos (by rw [List.length_cons]; omega)]
  rfl
theorem atI_nat {α : Type} {xs : List α} (n : Nat) : atI xs (n : Int) = xs[n]? := by
  unfold atI ixN
  rw [if_pos (by omega)]
  by_cases h : n < xs.length
  · rw [if_pos (by omega), Option.bind_some]
    rw [show ((n : Int)).toNat = n by omega]
  · rw [if_neg (by omega), Option.bind_none]
    rw [List.getElem?_eq_none (by omega)]
theorem atI_of {α : Type} {xs : List α} {i : Int} (h0 : 0 ≤ i) : atI xs i = xs[i.toNat]? := by
  have := atI_nat (xs := xs) i.toNat
  rwa [Int.toNat_of_nonneg h0] at this
@[simp] theorem v_atI1 {e : D} : atI (d :: e :: ds) 1 = some e := by
  rw [atI_of (by decide)]
  rfl
end
section
variable {E : (DE S)} {s0 : Sl} {l0 : List Sl} {pn : S} {t u : (DS S)} {te tv uv : (DW S)} {ta tb tc : (OW S)} {tt ut : (BW S)} {tl th : (PW_ S)} {aa : (AW S)} {it : (IW S)} {g : (GW S)} {gs : (GWs S)} {i j l n : Nat} {d : D} {xs : List D} {gg g' : D → D → Option Rs} {gu : D → Option Rs} {gl : List D → Option Rs}
variable {P : Rs → (En S) → Prop} {Po : Tk → (En S) → Prop} {Pb : Bool → (En S) → Prop} {Pp : Option Int → (En S) → Prop} {Pa : List Tk → (En S) → Prop} {Pi : Sc → (En S) → Prop} {Pg : (En S) → Prop} {Q : D → S → Prop}
@[simp↓] theorem e_nx {f : (En S) → Prop} {r : D → S → Prop} {b c : (En S) → Prop} {o : List D → S → Prop} {ρ : (En S)} : DE.nx ⟨f, r, b, c, o⟩ ρ = f ρ := rfl
@[simp↓] theorem e_rt {f : (En S) → Prop} {r : D → S → Prop} {b c : (En S) → Prop} {o : List D → S → Prop} : DE.rt ⟨f, r, b, c, o⟩ d pn = r d pn := rfl
@[simp↓] theorem e_bk {f : (En S) → Prop} {r : D → S → Prop} {b c : (En S) → Prop} {o : List D → S → Prop} {ρ : (En S)} : DE.bk ⟨f, r, b, c, o⟩ ρ = b ρ := rfl
@[simp↓] theorem e_ct {f : (En S) → Prop} {r : D → S → Prop} {b c : (En S) → Prop} {o : List D → S → Prop} {ρ : (En S)} : DE.ct ⟨f, r, b, c, o⟩ ρ = c ρ := rfl
@[simp↓] theorem e_ro {f : (En S) → Prop} {r : D → S → Prop} {b c : (En S) → Prop} {o : List D → S → Prop} : DE.ro ⟨f, r, b, c, o⟩ xs pn = o xs pn := rfl
@[simp↓] theorem z_sNil : sNil E ⟨s0 :: l0, pn⟩ = E.nx ⟨s0 :: l0, pn⟩ := rfl
@[simp↓] theorem z_sCons : sCons t u E ⟨s0 :: l0, pn⟩ = t { E with nx := fun ρ1 => u E ρ1 } ⟨s0 :: l0, pn⟩ := rfl
@[simp↓] theorem z_dSet : dSet i te E ⟨s0 :: l0, pn⟩ = te ⟨s0 :: l0, pn⟩ fun r ρ1 => E.nx ⟨ρ1.sl.set i r.sl, ρ1.pn⟩ := rfl
@[simp↓] theorem z_dRet : dRet te E ⟨s0 :: l0, pn⟩ = te ⟨s0 :: l0, pn⟩ fun r ρ1 => E.rt r.d ρ1.pn := rfl
@[simp↓] theorem z_dRetN : dRetN E ⟨s0 :: l0, pn⟩ = E.rt .none pn := rfl
@[simp↓] theorem z_sPass : sPass E ⟨s0 :: l0, pn⟩ = E.nx ⟨s0 :: l0, pn⟩ := rfl
@[simp↓] theorem z_sCont : sCont E ⟨s0 :: l0, pn⟩ = E.ct ⟨s0 :: l0, pn⟩ := rfl
@[simp↓] theorem z_sBreak : sBreak E ⟨s0 :: l0, pn⟩ = E.bk ⟨s0 :: l0, pn⟩ := rfl
@[simp↓] theorem z_dExpr : dExpr te E ⟨s0 :: l0, pn⟩ = te ⟨s0 :: l0, pn⟩ fun _ ρ1 => E.nx ρ1 := rfl
@[simp↓] theorem z_dIfS : dIfS tt t u E ⟨s0 :: l0, pn⟩ = tt ⟨s0 :: l0, pn⟩ fun b ρ1 => if b = true then t E ρ1 else u E ρ1 := rfl
@[simp↓] theorem z_dSetT : dSetT g te E ⟨s0 :: l0, pn⟩ = te ⟨s0 :: l0, pn⟩ fun r ρ1 => g r.d ρ1 E.nx := rfl
@[simp↓] theorem z_dPar2 : dPar2 i j aa E ⟨s0 :: l0, pn⟩ = aa ⟨s0 :: l0, pn⟩ fun ks ρ1 => gets (tmps ks) fun rs => match rs with
  | [r1, r2] => E.nx ⟨(ρ1.sl.set i r1.sl).set j r2.sl, ρ1.pn⟩
  | _ => False := rfl
@[simp↓] theorem z_dPar3 : dPar3 i j l aa E ⟨s0 :: l0, pn⟩ = aa ⟨s0 :: l0, pn⟩ fun ks ρ1 => gets (tmps ks) fun rs => match rs with
  | [r1, r2, r3] => E.nx ⟨((ρ1.sl.set i r1.sl).set j r2.sl).set l r3.sl, ρ1.pn⟩
  | _ => False := rfl
@[simp↓] theorem z_dAug {f : Int → Int → Int} : dAug i f te E ⟨s0 :: l0, pn⟩ = gets ((rdS (s0 :: l0) i).bind D.int?) fun a => te ⟨s0 :: l0, pn⟩ fun r ρ1 => gets (D.int? r.d) fun b => E.nx ⟨ρ1.sl.set i (.val (.int (f a b))), ρ1.pn⟩ := by rw [← rdS_eq]; rfl
@[simp↓] theorem z_dSetIx : dSetIx i ta te E ⟨s0 :: l0, pn⟩ = te ⟨s0 :: l0, pn⟩ fun r ρ1 => (own? ρ1.sl i).isSome = true ∧ ta ρ1 fun k ρ2 => gets ((k.rd ρ2).bind D.int?) fun z => gets (own? ρ2.sl i) fun xs => gets (ixN xs.length z) fun j => E.nx ⟨ρ2.sl.set i (.own (xs.set j r.d)), ρ2.pn⟩ := rfl
@[simp↓] theorem z_dPenSet {E : DE (Option Pen)} {te : DW (Option Pen)} {pn : Option (Pen)} {j : Int} : dPenSet i j te E ⟨s0 :: l0, pn⟩ = te ⟨s0 :: l0, pn⟩ fun r ρ1 => isPen ρ1.sl i = true ∧ gets ρ1.pn fun p => gets (D.int? r.d) fun z => gets (penSet p z j) fun p' => E.nx ⟨ρ1.sl, some p'⟩ := rfl
@[simp↓] theorem z_dFor {b : (DS S)} : dFor it g b E ⟨s0 :: l0, pn⟩ = it ⟨s0 :: l0, pn⟩ fun c ρ1 => (c.ks.any Tk.slot? = false) ∧ gets (c.items ρ1) fun items => items.length ≤ sizeLine → forW g b E items ρ1 := rfl
@[simp↓] theorem z_dLc {vs : List Nat} : dLc it g tt ta vs ⟨s0 :: l0, pn⟩ P = it ⟨s0 :: l0, pn⟩ fun c ρ1 => gets (c.items ρ1) fun items => items.length ≤ sizeLine →
  lcW c items g tt ta vs (fun acc ρ2 => P (.own acc) ⟨unwipe ρ1.sl ρ2.sl vs, ρ2.pn⟩) items [] ⟨wipeD ρ1.sl vs, ρ1.pn⟩ := rfl
@[simp↓] theorem z_oSlot : oSlot i ⟨s0 :: l0, pn⟩ Po = (hasS (s0 :: l0) i = true ∧ Po (.slot i) ⟨s0 :: l0, pn⟩) := rfl
@[simp↓] theorem z_oFix : oFix i ⟨s0 :: l0, pn⟩ Po = match (s0 :: l0)[i]? with
  | some (.val d) => Po (.tmp (.val d)) ⟨s0 :: l0, pn⟩
  | some (.own xs) => Po (.tmp (.val (.list xs))) ⟨(s0 :: l0).set i (.val (.list xs)), pn⟩
  | some (.bor xs) => Po (.bt xs) ⟨s0 :: l0, pn⟩
  | _ => False := rfl
@[simp↓] theorem z_dVar : dVar i ⟨s0 :: l0, pn⟩ P = match (s0 :: l0)[i]? with
  | some (.val d) => P (.val d) ⟨s0 :: l0, pn⟩
  | some (.own xs) => P (.val (.list xs)) ⟨(s0 :: l0).set i (.val (.list xs)), pn⟩
  | _ => False := rfl
@[simp↓] theorem z_dC : dC d ⟨s0 :: l0, pn⟩ P = P (.val d) ⟨s0 :: l0, pn⟩ := rfl
@[simp↓] theorem z_tmpD : tmpD te ⟨s0 :: l0, pn⟩ Po = te ⟨s0 :: l0, pn⟩ fun r ρ' => Po (.tmp r) ρ' := rfl
@[simp↓] theorem z_oVal : oVal te ⟨s0 :: l0, pn⟩ Po = te ⟨s0 :: l0, pn⟩ fun r ρ' => Po (.tmp (.val r.d)) ρ' := rfl
@[simp↓] theorem z_dBin : dBin gg ta tb ⟨s0 :: l0, pn⟩ P = ta ⟨s0 :: l0, pn⟩ fun k1 ρ1 => tb ρ1 fun k2 ρ2 => gets (k1.rd ρ2) fun d1 => gets (k2.rd ρ2) fun d2 => gets (gg d1 d2) fun r => P r ρ2 := rfl
@[simp↓] theorem z_dUn : dUn gu ta ⟨s0 :: l0, pn⟩ P = ta ⟨s0 :: l0, pn⟩ fun k ρ1 => gets (k.rd ρ1) fun d => gets (gu d) fun r => P r ρ1 := rfl
theorem g_iteP {α : Type} {c : Prop} [Decidable c] {a : α} {k : α → Prop} : gets (if c then some a else none) k = (c ∧ k a) := by
  by_cases h : c
  · rw [if_pos h]
    exact propext ⟨fun z => ⟨h, z⟩, fun z => z.2⟩
  · rw [if_neg h]
    exact propext ⟨fun z => z.elim, fun z => h z.1⟩
@[simp] theorem pt_none : ptop .none = true := rfl
@[simp] theorem pt_bool {b : Bool} : ptop (.bool b) = true := rfl
@[simp] theorem pt_int {i : Int} : ptop (.int i) = true := rfl
@[simp] theorem pt_str {x : Str} : ptop (.str x) = true := rfl
@[simp] theorem pt_list {xs : List D} : ptop (.list xs) = true := rfl
@[simp] theorem pt_tup {xs : List D} : ptop (.tuple xs) = true := rfl
@[simp] theorem pt_dict : ptop (.dict []) = true := rfl
@[simp↓] theorem z_dIsi {T : Ty} : dIsi T ta ⟨s0 :: l0, pn⟩ P = ta ⟨s0 :: l0, pn⟩ fun k ρ1 => gets (k.rd ρ1) fun d => ptop d = true ∧ P (.val (.bool (isi T d))) ρ1 := by
  show ta _ (fun k ρ1 => gets (k.rd ρ1) fun d => gets (if ptop d = true then some (bl (isi T d)) else none) fun r => P r ρ1) = _
  simp only [g_iteP]
  rfl
@[simp↓] theorem z_dIsi2 {T U : Ty} : dIsi2 T U ta ⟨s0 :: l0, pn⟩ P = ta ⟨s0 :: l0, pn⟩ fun k ρ1 => gets (k.rd ρ1) fun d => ptop d = true ∧ P (.val (.bool (isi T d || isi U d))) ρ1 := by
  show ta _ (fun k ρ1 => gets (k.rd ρ1) fun d => gets (if ptop d = true then some (bl (isi T d || isi U d)) else none) fun r => P r ρ1) = _
  simp only [g_iteP]
  rfl
@[simp↓] theorem z_dTst : dTst ta ⟨s0 :: l0, pn⟩ Pb = ta ⟨s0 :: l0, pn⟩ fun k ρ' => gets ((k.rd ρ').bind D.bool?) fun b => Pb b ρ' := rfl
@[simp↓] theorem z_dNot : dNot tt ⟨s0 :: l0, pn⟩ Pb = tt ⟨s0 :: l0, pn⟩ fun b ρ' => Pb (!b) ρ' := rfl
@[simp↓] theorem z_dAnd : dAnd tt ut ⟨s0 :: l0, pn⟩ Pb = tt ⟨s0 :: l0, pn⟩ fun b ρ' => if b = true then ut ρ' Pb else Pb false ρ' := rfl
@[simp↓] theorem z_dOr : dOr tt ut ⟨s0 :: l0, pn⟩ Pb = tt ⟨s0 :: l0, pn⟩ fun b ρ' => if b = true then Pb true ρ' else ut ρ' Pb := rfl
@[simp↓] theorem z_dAndV : dAndV tv uv ⟨s0 :: l0, pn⟩ P = tv ⟨s0 :: l0, pn⟩ fun r ρ1 => gets (D.bool? r.d) fun b => if b = true then uv ρ1 P else P (.val (.bool false)) ρ1 := rfl
@[simp↓] theorem z_dOrV : dOrV tv uv ⟨s0 :: l0, pn⟩ P = tv ⟨s0 :: l0, pn⟩ fun r ρ1 => gets (D.bool? r.d) fun b => if b = true then P (.val (.bool true)) ρ1 else uv ρ1 P := rfl
@[simp↓] theorem z_dNotV : dNotV tv ⟨s0 :: l0, pn⟩ P = tv ⟨s0 :: l0, pn⟩ fun r ρ1 => gets (D.bool? r.d) fun b => P (.val (.bool (!b))) ρ1 := rfl
@[simp↓] theorem z_dIf : dIf tt ta tb ⟨s0 :: l0, pn⟩ Po = tt ⟨s0 :: l0, pn⟩ fun b ρ1 => if b = true then ta ρ1 Po else tb ρ1 Po := rfl
@[simp↓] theorem z_dIfE : dIfE tt tv uv ⟨s0 :: l0, pn⟩ P = tt ⟨s0 :: l0, pn⟩ fun b ρ1 => if b = true then tv ρ1 P else uv ρ1 P := rfl
@[simp↓] theorem z_dChain : dChain gg g' ta tb tc ⟨s0 :: l0, pn⟩ P = ta ⟨s0 :: l0, pn⟩ fun k1 ρ1 => tb ρ1 fun k2 ρ2 => gets (k1.rd ρ2) fun d1 => gets (k2.rd ρ2) fun d2 => gets ((gg d1 d2).bind Rs.b?) fun b =>
  if b = true then tc ρ2 fun k3 ρ3 => gets (k2.rd ρ3) fun d2' => gets (k3.rd ρ3) fun d3 => gets (g' d2' d3) fun r => P r ρ3 else P (.val (.bool false)) ρ2 := rfl
@[simp↓] theorem z_aNil : aNil ⟨s0 :: l0, pn⟩ Pa = Pa [] ⟨s0 :: l0, pn⟩ := rfl
@[simp↓] theorem z_aCons : aCons ta aa ⟨s0 :: l0, pn⟩ Pa = ta ⟨s0 :: l0, pn⟩ fun k ρ1 => aa ρ1 fun ks ρ2 => Pa (k :: ks) ρ2 := rfl
@[simp↓] theorem z_dCB : dCB gl aa ⟨s0 :: l0, pn⟩ P = aa ⟨s0 :: l0, pn⟩ fun ks ρ1 => gets (rds ρ1 ks) fun ds => gets (gl ds) fun r => P r ρ1 := rfl
@[simp↓] theorem z_dDisp {mk : List D → Rs} : dDisp mk aa ⟨s0 :: l0, pn⟩ P = aa ⟨s0 :: l0, pn⟩ fun ks ρ1 => gets (vals ks) fun ds => ds.length ≤ 1000 ∧ P (mk ds) ρ1 := rfl
@[simp↓] theorem z_dDispT : dDisp mkT aa ⟨s0 :: l0, pn⟩ P = aa ⟨s0 :: l0, pn⟩ fun ks ρ1 => gets (vals ks) fun ds => ds.length ≤ 1000 ∧ P (.val (.tuple ds)) ρ1 := rfl
@[simp↓] theorem z_dCall {dsp : DSp S} : dCall n dsp aa ⟨s0 :: l0, pn⟩ P = aa ⟨s0 :: l0, pn⟩ fun ks ρ1 => gets (toArgs ρ1 ks) fun as => as.length = n ∧ dsp as ρ1.pn fun d pn' => P (.val d) ⟨ρ1.sl, pn'⟩ := rfl
@[simp↓] theorem z_pNone : pNone ⟨s0 :: l0, pn⟩ Pp = Pp none ⟨s0 :: l0, pn⟩ := rfl
@[simp↓] theorem z_pSome : pSome ta ⟨s0 :: l0, pn⟩ Pp = ta ⟨s0 :: l0, pn⟩ fun k ρ1 => gets ((k.rd ρ1).bind D.int?) fun i => Pp (some i) ρ1 := rfl
@[simp↓] theorem z_dSl : dSl ta tl th ⟨s0 :: l0, pn⟩ P = ta ⟨s0 :: l0, pn⟩ fun k ρ1 => tl ρ1 fun l ρ2 => th ρ2 fun h ρ3 => gets (k.rd ρ3) fun d => gets (slD d l h) fun r => P r ρ3 := rfl
@[simp↓] theorem z_dScr : dScr i tl th ⟨s0 :: l0, pn⟩ P = ((scr? (s0 :: l0) i).isSome = true ∧ tl ⟨s0 :: l0, pn⟩ fun l ρ2 => th ρ2 fun h ρ3 => gets (scr? ρ3.sl i) fun ns => P (.own (cutD (ns.map .int) l h)) ρ3) := rfl
@[simp↓] theorem z_dPen {P : Rs → En (Option Pen) → Prop} {pn : Option (Pen)} {j : Int} : dPen i j ⟨s0 :: l0, pn⟩ P = (isPen (s0 :: l0) i = true ∧ gets pn fun p => gets (penD p j) fun d => P (.val d) ⟨s0 :: l0, pn⟩) := rfl
@[simp↓] theorem z_dAppend : dAppend i ta ⟨s0 :: l0, pn⟩ P = ((own? (s0 :: l0) i).isSome = true ∧ ta ⟨s0 :: l0, pn⟩ fun k ρ1 => gets k.valD fun d => gets (own? ρ1.sl i) fun xs => xs.length < sizeLine ∧ P (.val .none) ⟨ρ1.sl.set i (.own (xs ++ [d])), ρ1.pn⟩) := rfl
@[simp↓] theorem z_dPop : dPop i ⟨s0 :: l0, pn⟩ P = gets (own? (s0 :: l0) i) fun xs => gets (xs[xs.length - 1]?) fun d => P (.val d) ⟨(s0 :: l0).set i (.own xs.dropLast), pn⟩ := rfl
@[simp↓] theorem z_gN : gN i d ⟨s0 :: l0, pn⟩ Pg = Pg ⟨(s0 :: l0).set i (.val d), pn⟩ := rfl
@[simp↓] theorem z_gT : gT n gs (.tuple xs) ⟨s0 :: l0, pn⟩ Pg = (xs.length = n ∧ gs xs ⟨s0 :: l0, pn⟩ Pg) := rfl
@[simp↓] theorem z_gNil : gNil xs ⟨s0 :: l0, pn⟩ Pg = (xs = [] ∧ Pg ⟨s0 :: l0, pn⟩) := rfl
@[simp↓] theorem z_gCons : gCons g gs (d :: xs) ⟨s0 :: l0, pn⟩ Pg = g d ⟨s0 :: l0, pn⟩ fun ρ1 => gs xs ρ1 Pg := rfl
@[simp↓] theorem z_dYes : dYes ⟨s0 :: l0, pn⟩ Pb = Pb true ⟨s0 :: l0, pn⟩ := rfl
@[simp↓] theorem z_iRange1 : iRange1 ta ⟨s0 :: l0, pn⟩ Pi = ta ⟨s0 :: l0, pn⟩ fun k ρ1 => gets ((k.rd ρ1).bind D.int?) fun j => (-(2 ^ 62) ≤ j ∧ j ≤ 16777216) ∧ Pi ⟨[], fun _ => some (rangeD 0 j.toNat)⟩ ρ1 := rfl
@[simp↓] theorem z_iRange2 : iRange2 ta tb ⟨s0 :: l0, pn⟩ Pi = ta ⟨s0 :: l0, pn⟩ fun k ρ1 => tb ρ1 fun k2 ρ2 => gets ((k.rd ρ2).bind D.int?) fun i => gets ((k2.rd ρ2).bind D.int?) fun j => (-(2 ^ 62) ≤ i ∧ i < 2 ^ 62 ∧ -(2 ^ 62) ≤ j ∧ j < 2 ^ 62 ∧ j - i ≤ 16777216) ∧ Pi ⟨[], fun _ => some (rangeD i (j - i).toNat)⟩ ρ2 := rfl
@[simp↓] theorem z_iEn : iEn aa ⟨s0 :: l0, pn⟩ Pi = aa ⟨s0 :: l0, pn⟩ fun ks ρ1 => match ks with
  | [k] => gets ((k.rd ρ1).bind kindD) fun c => Pi ⟨[k], enumF c⟩ ρ1
  | _ => False := rfl
@[simp↓] theorem z_iZp {st : Bool} : iZp st aa ⟨s0 :: l0, pn⟩ Pi = aa ⟨s0 :: l0, pn⟩ fun ks ρ1 => match ks with
  | [k, k2] => gets ((k.rd ρ1).bind kindD) fun c1 => gets ((k2.rd ρ1).bind kindD) fun c2 => Pi ⟨[k, k2], zipF st c1 c2⟩ ρ1
  | _ => False := rfl
@[simp↓] theorem z_iSeq : iSeq ta ⟨s0 :: l0, pn⟩ Pi = ta ⟨s0 :: l0, pn⟩ fun k ρ1 => gets (k.rd ρ1) fun d => match d with
  | .list _ => Pi ⟨[k], listF⟩ ρ1
  | .tuple _ => Pi ⟨[k], tupF⟩ ρ1
  | _ => False := rfl
@[simp↓] theorem g_some {α : Type} {a : α} {k : α → Prop} : gets (some a) k = k a := rfl
@[simp↓] theorem g_tmpV {ρ : En S} {k : D → Prop} : gets (Tk.rd ρ (.tmp (.val d))) k = k d := rfl
@[simp↓] theorem g_tmpO {ρ : En S} {k : D → Prop} : gets (Tk.rd ρ (.tmp (.own xs))) k = k (.list xs) := rfl
@[simp↓] theorem g_tmpM {ρ : En S} {k : D → Prop} : gets (Tk.rd ρ (.tmp (mkT xs))) k = k (.tuple xs) := rfl
@[simp↓] theorem g_boolM {k : Bool → Prop} : gets (D.bool? (Rs.d (mkT xs))) k = False := rfl
@[simp↓] theorem g_bt {ρ : En S} {k : D → Prop} : gets (Tk.rd ρ (.bt xs)) k = k (.list xs) := rfl
@[simp↓] theorem g_slot {k : D → Prop} : gets (Tk.rd ⟨s0 :: l0, pn⟩ (.slot i)) k = gets (rdS (s0 :: l0) i) k := by rw [← rdS_eq]; rfl
@[simp↓] theorem g_rv {k : D → Prop} : gets (rdS (.val d :: l0) 0) k = k d := rfl
@[simp↓] theorem g_ro {k : D → Prop} : gets (rdS (.own xs :: l0) 0) k = k (.list xs) := rfl
@[simp↓] theorem g_rb {k : D → Prop} : gets (rdS (.bor xs :: l0) 0) k = k (.list xs) := rfl
@[simp↓] theorem g_rs {k : D → Prop} : gets (rdS (s0 :: l0) (n + 1)) k = gets (rdS l0 n) k := rfl
@[simp↓] theorem g_bind {α β : Type} {o : Option α} {f : α → Option β} {k : β → Prop} : gets (o.bind f) k = gets o fun a => gets (f a) k := by cases o <;> rfl
@[simp↓] theorem g_map {α β : Type} {o : Option α} {f : α → β} {k : β → Prop} : gets (o.map f) k = gets o fun a => k (f a) := by cases o <;> rfl
@[simp↓] theorem g_ite {α : Type} {c : Prop} [Decidable c] {a : α} {k : α → Prop} : gets (if c then some a else none) k = (c ∧ k a) := by by_cases h : c <;> simp [h]
@[simp↓] theorem g_bool {b : Bool} {k : Bool → Prop} : gets (D.bool? (.bool b)) k = k b := rfl
@[simp↓] theorem g_boolV {r : D} {k : Bool → Prop} : gets (D.bool? (Rs.d (.val r))) k = gets (D.bool? r) k := rfl
@[simp↓] theorem g_int {i : Int} {k : Int → Prop} : gets (D.int? (.int i)) k = k i := rfl
@[simp↓] theorem g_intV {r : D} {k : Int → Prop} : gets (D.int? (Rs.d (.val r))) k = gets (D.int? r) k := rfl
@[simp↓] theorem g_Rsb {r : Rs} {k : Bool → Prop} : gets (Rs.b? r) k = gets (D.bool? r.d) k := rfl
@[simp↓] theorem g_lt {i j : Int} {k : Rs → Prop} : gets (ltD (.int i) (.int j)) k = k (.val (.bool (decide (i < j)))) := rfl
@[simp↓] theorem g_le {i j : Int} {k : Rs → Prop} : gets (leD (.int i) (.int j)) k = k (.val (.bool (decide (i ≤ j)))) := rfl
@[simp↓] theorem g_gt {i j : Int} {k : Rs → Prop} : gets (gtD (.int i) (.int j)) k = k (.val (.bool (decide (j < i)))) := rfl
@[simp↓] theorem g_ge {i j : Int} {k : Rs → Prop} : gets (geD (.int i) (.int j)) k = k (.val (.bool (decide (j ≤ i)))) := rfl
@[simp↓] theorem g_addI {i j : Int} {k : Rs → Prop} : gets (addD (.int i) (.int j)) k = k (.val (.int (i + j))) := rfl
@[simp↓] theorem g_addL {ys : List D} {k : Rs → Prop} : gets (addD (.list xs) (.list ys)) k = (xs.length + ys.length ≤ sizeLine ∧ k (.own (xs ++ ys))) := by unfold addD; exact g_ite
@[simp↓] theorem g_addT {ys : List D} {k : Rs → Prop} : gets (addD (.tuple xs) (.tuple ys)) k = (xs.length + ys.length ≤ sizeLine ∧ k (.val (.tuple (xs ++ ys)))) := by unfold addD; exact g_ite
@[simp↓] theorem g_sub {i j : Int} {k : Rs → Prop} : gets (subD (.int i) (.int j)) k = k (.val (.int (i - j))) := rfl
@[simp↓] theorem g_mulI {i j : Int} {k : Rs → Prop} : gets (mulT (.int i) (.int j)) k = (CMulW i j ∧ k (.val (.int (i * j)))) := by unfold mulT mulD; exact g_ite
@[simp↓] theorem g_mulT {i : Int} {k : Rs → Prop} : gets (mulT (.tuple xs) (.int i)) k = ((xs ≠ [] ∧ 1 ≤ i ∧ i ≤ 1000 ∧ xs.length ≤ 1000) ∧ k (.val (.tuple (List.replicate i.toNat xs).flatten))) := by unfold mulT; exact g_ite
@[simp↓] theorem g_mulL {i : Int} {k : Rs → Prop} : gets (mulT (.list xs) (.int i)) k = ((-(2 ^ 63) ≤ i ∧ i < 2 ^ 63 ∧ xs.length * i.toNat ≤ sizeLine) ∧ k (.own (List.replicate i.toNat xs).flatten)) := by unfold mulT mulD; exact g_ite
@[simp↓] theorem g_addS {x y : Str} {k : Rs → Prop} : gets (addD (.str x) (.str y)) k = (x.length + y.length ≤ sizeLine ∧ k (.val (.str (x ++ y)))) := by unfold addD; exact g_ite
@[simp↓] theorem g_fdiv {i j : Int} {k : Rs → Prop} : gets (fdivD (.int i) (.int j)) k = (CDivW i j ∧ k (.val (.int (i / j)))) := by unfold fdivD; exact g_ite
@[simp↓] theorem g_mod {i j : Int} {k : Rs → Prop} : gets (modD (.int i) (.int j)) k = (0 < j ∧ k (.val (.int (i % j)))) := by unfold modD; exact g_ite
@[simp↓] theorem g_pow {i j : Int} {k : Rs → Prop} : gets (powD (.int i) (.int j)) k = (CPow i j ∧ k (.val (.int (i ^ j.toNat)))) := by unfold powD; exact g_ite
@[simp↓] theorem g_neg {i : Int} {k : Rs → Prop} : gets (negD (.int i)) k = k (.val (.int (-i))) := rfl
@[simp↓] theorem g_ixL {i : Int} {k : Rs → Prop} : gets (ixD (.list xs) (.int i)) k = gets (atI xs i) fun d => k (.val d) := g_map
@[simp↓] theorem g_ixT {i : Int} {k : Rs → Prop} : gets (ixD (.tuple xs) (.int i)) k = gets (atI xs i) fun d => k (.val d) := g_map
@[simp↓] theorem g_at0 {k : D → Prop} : gets (atI (d :: xs) 0) k = k d := by rw [v_atI0]; rfl
@[simp↓] theorem g_at1 {e : D} {k : D → Prop} : gets (atI (d :: e :: xs) 1) k = k e := by rw [v_atI1]; rfl
@[simp↓] theorem g_slL {l h : Option Int} {k : Rs → Prop} : gets (slD (.list xs) l h) k = k (.own (cutD xs l h)) := rfl
@[simp↓] theorem g_slT {l h : Option Int} {k : Rs → Prop} : gets (slD (.tuple xs) l h) k = k (.val (.tuple (cutD xs l h))) := rfl
@[simp↓] theorem g_revL {k : Rs → Prop} : gets (revD (.list xs)) k = k (.own xs.reverse) := rfl
@[simp↓] theorem g_revT {k : Rs → Prop} : gets (revD (.tuple xs)) k = k (.val (.tuple xs.reverse)) := rfl
@[simp↓] theorem g_lenL {k : Rs → Prop} : gets (lenD [.list xs]) k = k (.val (.int xs.length)) := rfl
@[simp↓] theorem g_lenT {k : Rs → Prop} : gets (lenD [.tuple xs]) k = k (.val (.int xs.length)) := rfl
@[simp↓] theorem g_listL {k : Rs → Prop} : gets (listD [.list xs]) k = k (.own xs) := rfl
@[simp↓] theorem g_listT {k : Rs → Prop} : gets (listD [.tuple xs]) k = k (.own xs) := rfl
@[simp↓] theorem g_tupL {k : Rs → Prop} : gets (tupleD [.list xs]) k = k (.val (.tuple xs)) := rfl
@[simp↓] theorem g_tupT {k : Rs → Prop} : gets (tupleD [.tuple xs]) k = k (.val (.tuple xs)) := rfl
@[simp↓] theorem g_intI {i : Int} {k : Rs → Prop} : gets (intD [.int i]) k = k (.val (.int i)) := rfl
@[simp↓] theorem g_intB {b : Bool} {k : Rs → Prop} : gets (intD [.bool b]) k = k (.val (.int (if b then 1 else 0))) := rfl
@[simp↓] theorem g_sumL {k : Rs → Prop} : gets (sumD [.list xs]) k = gets (ints? xs) fun ns => k (.val (.int ns.sum)) := g_map
@[simp↓] theorem g_sumT {k : Rs → Prop} : gets (sumD [.tuple xs]) k = gets (ints? xs) fun ns => k (.val (.int ns.sum)) := g_map
@[simp↓] theorem g_minL {k : Rs → Prop} : gets (minD [.list xs]) k = gets (ints? xs) fun ns => gets (minI ns) fun m => k (.val (.int m)) := by show gets ((ints? xs).bind _) k = _; rw [g_bind]; congr 1; funext ns; exact g_map
@[simp↓] theorem g_allL {k : Rs → Prop} : gets (allD [.list xs]) k = gets (bls? xs) fun bs => k (.val (.bool (bs.all id))) := g_map
@[simp↓] theorem g_maxL {k : Rs → Prop} : gets (maxD [.list xs]) k = gets (ints? xs) fun ns => gets (maxI ns) fun m => k (.val (.int m)) := by show gets ((ints? xs).bind _) k = _; rw [g_bind]; congr 1; funext ns; exact g_map
@[simp↓] theorem g_max2 {i j : Int} {k : Rs → Prop} : gets (maxD [.int i, .int j]) k = k (.val (.int (max i j))) := rfl
@[simp↓] theorem g_eq {e : D} {k : Rs → Prop} : gets (eqD d e) k = (eqOk d e = true ∧ k (.val (.bool (PyData.eqv d e)))) := by unfold eqD; exact g_ite
@[simp↓] theorem g_ne {e : D} {k : Rs → Prop} : gets (neD d e) k = (eqOk d e = true ∧ k (.val (.bool (!PyData.eqv d e)))) := by unfold neD; exact g_ite
@[simp↓] theorem g_is {k : Rs → Prop} : gets (isD false d .none) k = k (.val (.bool (isNone d))) := rfl
@[simp↓] theorem g_isn {k : Rs → Prop} : gets (isD true d .none) k = k (.val (.bool (!isNone d))) := rfl
@[simp↓] theorem g_repr {k : Rs → Prop} : gets (reprD [d]) k = (reprOk d ∧ k (.val (.str d.shown))) := by unfold reprD; exact g_ite
@[simp↓] theorem g_vals0 {k : List D → Prop} : gets (vals []) k = k [] := rfl
@[simp↓] theorem g_vals {ks : List Tk} {k : List D → Prop} : gets (vals (.tmp (.val d) :: ks)) k = gets (vals ks) fun ds => k (d :: ds) := g_bind
@[simp↓] theorem g_rds0 {ρ : En S} {k : List D → Prop} : gets (rds ρ []) k = k [] := rfl
@[simp↓] theorem g_rds {ρ : En S} {kk : Tk} {ks : List Tk} {k : List D → Prop} : gets (rds ρ (kk :: ks)) k = gets (kk.rd ρ) fun d => gets (rds ρ ks) fun ds => k (d :: ds) := by rw [rds_cons, g_bind]; congr 1; funext d; exact g_bind
@[simp↓] theorem g_ta0 {ρ : En S} {k : List Arg → Prop} : gets (toArgs ρ []) k = k [] := rfl
@[simp↓] theorem g_ta {ρ : En S} {kk : Tk} {ks : List Tk} {k : List Arg → Prop} : gets (toArgs ρ (kk :: ks)) k = gets (toArg ρ kk) fun d => gets (toArgs ρ ks) fun ds => k (d :: ds) := by rw [v_toArgs_cons, g_bind]; congr 1; funext d; exact g_bind
@[simp↓] theorem g_taT {ρ : En S} {k : Arg → Prop} : gets (toArg ρ (.tmp (.val d))) k = k (.val d) := rfl
@[simp↓] theorem g_taS {k : Arg → Prop} : gets (toArg ⟨s0 :: l0, pn⟩ (.slot i)) k = gets (argS (s0 :: l0) i) k := by rw [← argS_eq]; rfl
@[simp↓] theorem g_asV {k : Arg → Prop} : gets (argS (.val d :: l0) 0) k = k (.val d) := rfl
@[simp↓] theorem g_asO {k : Arg → Prop} : gets (argS (.own xs :: l0) 0) k = k (.bor xs) := rfl
@[simp↓] theorem g_asB {k : Arg → Prop} : gets (argS (.bor xs :: l0) 0) k = k (.bor xs) := rfl
@[simp↓] theorem g_asP {k : Arg → Prop} : gets (argS (.pen :: l0) 0) k = k .pen := rfl
@[simp↓] theorem g_asS {k : Arg → Prop} : gets (argS (s0 :: l0) (n + 1)) k = gets (argS l0 n) k := rfl
@[simp↓] theorem g_tm0 {k : List Rs → Prop} : gets (tmps []) k = k [] := rfl
@[simp↓] theorem g_tm {r : Rs} {ks : List Tk} {k : List Rs → Prop} : gets (tmps (.tmp r :: ks)) k = gets (tmps ks) fun rs => k (r :: rs) := g_map
@[simp↓] theorem g_vd {k : D → Prop} : gets (Tk.valD (.tmp (.val d))) k = k d := rfl
@[simp↓] theorem g_p0 {p : Pen} {k : D → Prop} : gets (penD p 0) k = k (.list (p.cells.map .int)) := rfl
@[simp↓] theorem g_p1 {p : Pen} {k : D → Prop} : gets (penD p 1) k = k (.int p.at_) := rfl
@[simp↓] theorem g_p2 {p : Pen} {k : D → Prop} : gets (penD p 2) k = k (.int p.cur) := rfl
@[simp↓] theorem g_q1 {p : Pen} {i : Int} {k : Pen → Prop} : gets (penSet p i 1) k = k ⟨p.cells, i, p.cur⟩ := rfl
@[simp↓] theorem g_q2 {p : Pen} {i : Int} {k : Pen → Prop} : gets (penSet p i 2) k = k ⟨p.cells, p.at_, i⟩ := rfl
@[simp↓] theorem g_kdL {k : Bool → Prop} : gets (kindD (.list xs)) k = k false := rfl
@[simp↓] theorem g_kdT {k : Bool → Prop} : gets (kindD (.tuple xs)) k = k true := rfl
@[simp↓] theorem g_itR {ρ : En S} {ys : List D} {k : List D → Prop} : gets (Sc.items ⟨[], fun _ => some ys⟩ ρ) k = k ys := rfl
@[simp↓] theorem g_it1 {ρ : En S} {kk : Tk} {f : List D → Option (List D)} {k : List D → Prop} : gets (Sc.items ⟨[kk], f⟩ ρ) k = gets (kk.rd ρ) fun d => gets (f [d]) k := by unfold Sc.items; rw [g_bind, g_rds]; rfl
@[simp↓] theorem g_it2 {ρ : En S} {k1 k2 : Tk} {f : List D → Option (List D)} {k : List D → Prop} : gets (Sc.items ⟨[k1, k2], f⟩ ρ) k = gets (k1.rd ρ) fun d => gets (k2.rd ρ) fun e => gets (f [d, e]) k := by unfold Sc.items; rw [g_bind, g_rds]; congr 1; funext d; rw [g_rds]; rfl
@[simp↓] theorem g_lF {k : List D → Prop} : gets (listF [.list xs]) k = k xs := rfl
@[simp↓] theorem g_tF {k : List D → Prop} : gets (tupF [.tuple xs]) k = k xs := rfl
@[simp↓] theorem g_eFL {k : List D → Prop} : gets (enumF false [.list xs]) k = k (enumL 0 xs) := rfl
@[simp↓] theorem g_eFT {k : List D → Prop} : gets (enumF true [.tuple xs]) k = k (enumL 0 xs) := rfl
@[simp↓] theorem g_zNlistlist {ys : List D} {k : List D → Prop} : gets (zipF false false false [.list xs, .list ys]) k = k (pairL xs ys) := rfl
@[simp↓] theorem g_zSlistlist {ys : List D} {k : List D → Prop} : gets (zipF true false false [.list xs, .list ys]) k = (xs.length = ys.length ∧ k (pairL xs ys)) := by unfold zipF; simp only [Option.bind_some, seqK_list, seqK_list]; by_cases h : xs.length = ys.length <;> simp [h]
@[simp↓] theorem g_zNlisttuple {ys : List D} {k : List D → Prop} : gets (zipF false false true [.list xs, .tuple ys]) k = k (pairL xs ys) := rfl
@[simp↓] theorem g_zSlisttuple {ys : List D} {k : List D → Prop} : gets (zipF true false true [.list xs, .tuple ys]) k = (xs.length = ys.length ∧ k (pairL xs ys)) := by unfold zipF; simp only [Option.bind_some, seqK_list, seqK_tuple]; by_cases h : xs.length = ys.length <;> simp [h]
@[simp↓] theorem g_zNtuplelist {ys : List D} {k : List D → Prop} : gets (zipF false true false [.tuple xs, .list ys]) k = k (pairL xs ys) := rfl
@[simp↓] theorem g_zStuplelist {ys : List D} {k : List D → Prop} : gets (zipF true true false [.tuple xs, .list ys]) k = (xs.length = ys.length ∧ k (pairL xs ys)) := by unfold zipF; simp only [Option.bind_some, seqK_tuple, seqK_list]; by_cases h : xs.length = ys.length <;> simp [h]
@[simp↓] theorem g_zNtupletuple {ys : List D} {k : List D → Prop} : gets (zipF false true true [.tuple xs, .tuple ys]) k = k (pairL xs ys) := rfl
@[simp↓] theorem g_zStupletuple {ys : List D} {k : List D → Prop} : gets (zipF true true true [.tuple xs, .tuple ys]) k = (xs.length = ys.length ∧ k (pairL xs ys)) := by unfold zipF; simp only [Option.bind_some, seqK_tuple, seqK_tuple]; by_cases h : xs.length = ys.length <;> simp [h]
end
end Dk
namespace Dk
open PySem PySem.Spec PyProof.Rows L2
variable {S : Type} [StK S]
theorem forW_inv {g : (GW S)} {b : (DS S)} {E : (DE S)} {items : List D} (J : Nat → (En S) → Prop)
    (step : ∀ (i : Nat) (d : D) (ρ : (En S)), items[i]? = some d → J i ρ → ∀ N : (En S) → Prop, (∀ ρ', J (i + 1) ρ' → N ρ') → g d ρ fun ρ1 => b { nx := N, rt := E.rt, bk := E.nx, ct := N } ρ1)
    (fin : ∀ ρ, J items.length ρ → E.nx ρ) {ρ : (En S)} (h0 : J 0 ρ) : forW g b E items ρ := by
  have key : ∀ (n i : Nat) (ρ : (En S)), i + n = items.length → J i ρ → forW g b E (items.drop i) ρ := by
    intro n
    induction n with
    | zero =>
      intro i ρ e h
      rw [List.drop_eq_nil_of_le (by omega)]
      exact fin ρ (by rw [← show i = items.length by omega]; exact h)
    | succ n ih =>
      intro i ρ e h
      have hi : i < items.length := by omega
      rw [List.drop_eq_getElem_cons hi]
      exact step i items[i] ρ (List.getElem?_eq_getElem hi) h _ fun ρ' h' => ih (i + 1) ρ' (by omega) h'
  exact key items.length 0 ρ (by omega) h0
theorem lcW_inv {c : Sc} {items : List D} {g : (GW S)} {tt : (BW S)} {te : (OW S)} {vs : List Nat} {Q : List D → (En S) → Prop} (J : Nat → List D → (En S) → Prop)
    (its : ∀ i acc ρ, J i acc ρ → c.items ρ = some items)
    (step : ∀ (i : Nat) (d : D) (acc : List D) (ρ : (En S)), items[i]? = some d → J i acc ρ → ∀ N : List D → (En S) → Prop, (∀ acc' ρ', J (i + 1) acc' ρ' → N acc' ρ') →
      g d ρ fun ρ1 => tt ρ1 fun b ρ2 => if b = true then te ρ2 fun k ρ3 => gets k.valD fun y => N (acc ++ [y]) ⟨wipeD ρ3.sl vs, ρ3.pn⟩ else N acc ⟨wipeD ρ2.sl vs, ρ2.pn⟩)
    (fin : ∀ acc ρ, J items.length acc ρ → Q acc ρ) {ρ : (En S)} (h0 : J 0 [] ρ) : lcW c items g tt te vs Q items [] ρ := by
  have key : ∀ (n i : Nat) (acc : List D) (ρ : (En S)), i + n = items.length → J i acc ρ → lcW c items g tt te vs Q (items.drop i) acc ρ := by
    intro n
    induction n with
    | zero =>
      intro i acc ρ e h
      rw [List.drop_eq_nil_of_le (by omega)]
      exact ⟨its _ _ _ h, fin acc ρ (by rw [← show i = items.length by omega]; exact h)⟩
    | succ n ih =>
      intro i acc ρ e h
      have hi : i < items.length := by omega
      rw [List.drop_eq_getElem_cons hi]
      exact ⟨its _ _ _ h, step i items[i] acc ρ (List.getElem?_eq_getElem hi) h (fun acc ρ => lcW c items g tt te vs Q (items.drop (i + 1)) acc ρ) fun acc' ρ' h' => ih (i + 1) acc' ρ' (by omega) h'⟩
  exact key items.length 0 [] ρ (by omega) h0
inductive All2 (R : D → D → Prop) : List D → List D → Prop
  | nil : All2 R [] []
  | cons {x y : D} {xs ys : List D} : R x y → All2 R xs ys → All2 R (x :: xs) (y :: ys)
theorem All2.snoc {R : D → D → Prop} {x y : D} : ∀ {xs ys : List D}, All2 R xs ys → R x y → All2 R (xs ++ [x]) (ys ++ [y])
  | _, _, .nil, h => .cons h .nil
  | _, _, .cons a r, h => .cons a (r.snoc h)
theorem All2.len {R : D → D → Prop} : ∀ {xs ys : List D}, All2 R xs ys → xs.length = ys.length
  | _, _, .nil => rfl
  | _, _, .cons _ r => by rw [List.length_cons, List.length_cons, r.len]
theorem cut0 (ds : List D) (n : Nat) : cutD ds none (some (n : Int)) = ds.take n := by
  unfold cutD
  rw [show HT.sIx ds.length 0 none = 0 from rfl, HT.sIx_nat]
  simp
theorem cutN (ds : List D) (m n : Nat) : cutD ds (some (m : Int)) (some (n : Int)) = (ds.drop (min m ds.length)).take (min n ds.length - min m ds.length) := by
  unfold cutD
  rw [HT.sIx_nat, HT.sIx_nat]
end Dk
namespace Dk
open PySem PySem.Spec PyProof.Rows L2
mutual
def wgt : D → Nat
  | .none => PyData.none.shown.length
  | .bool b => (PyData.bool b).shown.length
  | .int i => (PyData.int i).shown.length
  | .str x => (PyData.str x).shown.length
  | .list ds => wgts ds + 3
  | .tuple ds => wgts ds + 3
  | .dict kvs => (PyData.dict kvs).shown.length
def wgts : List D → Nat
  | [] => 0
  | d :: ds => wgt d + 2 + wgts ds
end
theorem wgts_nil : wgts [] = 0 := rfl
theorem wgts_cons {d : D} {ds : List D} : wgts (d :: ds) = wgt d + 2 + wgts ds := by rw [wgts]
theorem wgt_tuple {ds : List D} : wgt (.tuple ds) = wgts ds + 3 := by rw [wgt]
theorem wgt_list {ds : List D} : wgt (.list ds) = wgts ds + 3 := by rw [wgt]
mutual
theorem shown_le : ∀ d : D, d.shown.length ≤ wgt d
  | .none => by rw [wgt]; exact Nat.le_refl _
  | .bool b => by rw [wgt]; exact Nat.le_refl _
  | .int i => by rw [wgt]; exact Nat.le_refl _
  | .str x => by rw [wgt]; exact Nat.le_refl _
  | .list ds => by
    rw [wgt_list]
    have h := listText_len_le (PyData.shownAll ds)
    have h2 := shownAll_le ds
    show (listText (PyData.shownAll ds)).length ≤ _
    omega
  | .tuple ds => by
    rw [wgt_tuple]
    have h := tupleText_len_le (PyData.shownAll ds)
    have h2 := shownAll_le ds
    show (tupleText (PyData.shownAll ds)).length ≤ _
    omega
  | .dict kvs => by rw [wgt]; exact Nat.le_refl _
theorem shownAll_le : ∀ ds : List D, ((PyData.shownAll ds).map (·.length)).sum + 2 * (PyData.shownAll ds).length ≤ wgts ds
  | [] => by simp [PyData.shownAll]
  | d :: ds => by
    rw [wgts_cons]
    have h1 := shown_le d
    have h2 := shownAll_le ds
    simp only [PyData.shownAll, List.map_cons, List.sum_cons, List.length_cons]
    omega
end
mutual
def pl : D → Bool
  | .none => true
  | .bool _ => true
  | .int i => decide (i.natAbs.log2 < 1920)
  | .str x => PyData.strOk x
  | .list _ => false
  | .tuple ds => plA ds
  | .dict _ => false
def plA : List D → Bool
  | [] => true
  | d :: ds => pl d && plA ds
end
theorem pl_tuple {ds : List D} : pl (.tuple ds) = plA ds := by rw [pl]
theorem plA_iff : ∀ {ds : List D}, plA ds = true ↔ ∀ d ∈ ds, pl d = true
  | [] => by simp [plA]
  | d :: ds => by
    rw [plA, Bool.and_eq_true, plA_iff]
    simp
theorem pl_int {i : Int} (h : i.natAbs < 1267650600228229401496703205376) : pl (.int i) = true := by
  rw [pl, decide_eq_true_eq]
  by_cases h0 : i.natAbs = 0
  · rw [h0]; decide
  · have : i.natAbs.log2 < 101 := (Nat.log2_lt h0).mpr (Nat.lt_of_lt_of_le h (by decide))
    omega
mutual
theorem pl_all : ∀ {d : D}, pl d = true → d.showable = true ∧ noList d = true ∧ d.hasDict = false ∧ d.canLay0 = true
  | .none, _ => ⟨rfl, rfl, rfl, rfl⟩
  | .bool b, _ => ⟨rfl, rfl, rfl, rfl⟩
  | .int i, h => ⟨by rw [pl] at h; exact h, rfl, rfl, rfl⟩
  | .str x, h => ⟨rfl, rfl, rfl, by rw [pl] at h; exact h⟩
  | .list ds, h => by rw [pl] at h; cases h
  | .tuple ds, h => by
    rw [pl_tuple] at h
    obtain ⟨h1, h2, h3, h4⟩ := plA_all h
    exact ⟨by rw [PyData.showable]; exact h1, by rw [noList]; exact h2, by rw [PyData.hasDict]; exact h3, by rw [PyData.canLay0]; exact h4⟩
  | .dict kvs, h => by rw [pl] at h; cases h
theorem plA_all : ∀ {ds : List D}, plA ds = true → PyData.showableAll ds = true ∧ noLists ds = true ∧ PyData.hasDictAll ds = false ∧ PyData.canLayAll0 ds = true
  | [], _ => ⟨rfl, rfl, rfl, rfl⟩
  | d :: ds, h => by
    rw [plA, Bool.and_eq_true] at h
    obtain ⟨h1, h2, h3, h4⟩ := pl_all h.1
    obtain ⟨g1, g2, g3, g4⟩ := plA_all h.2
    exact ⟨by rw [PyData.showableAll, h1, g1]; rfl, by rw [noLists, h2, g2]; rfl, by rw [PyData.hasDictAll, h3, g3]; rfl, by rw [PyData.canLayAll0, h4, g4]; rfl⟩
end
theorem depthAll_le : ∀ {ds : List D} {h : Nat}, PyData.depthAll ds ≤ h ↔ ∀ d ∈ ds, d.depth ≤ h
  | [], h => by simp [PyData.depthAll]
  | d :: ds, h => by
    rw [PyData.depthAll, Nat.max_le, depthAll_le]
    simp
theorem depth_tuple {ds : List D} : (PyData.tuple ds).depth = PyData.depthAll ds + 1 := by rw [PyData.depth]
theorem depth_list {ds : List D} : (PyData.list ds).depth = PyData.depthAll ds + 1 := by rw [PyData.depth]
structure Vw (W h : Nat) (d : D) : Prop where
  sh : d.showable = true
  w : wgt d ≤ W
  dp : d.depth ≤ h
  ld : noList d = true ∨ d.hasDict = false
def vw (W h : Nat) (d : D) : Bool := d.showable && decide (wgt d ≤ W) && decide (d.depth ≤ h) && (noList d || !d.hasDict)
theorem Vw.of {W h : Nat} {d : D} (c : vw W h d = true) : Vw W h d := by
  simp only [vw, Bool.and_eq_true, decide_eq_true_eq, Bool.or_eq_true, Bool.not_eq_true'] at c
  exact ⟨c.1.1.1, c.1.1.2, c.1.2, c.2⟩
theorem Vw.mono {W h W' h' : Nat} {d : D} (c : Vw W h d) (hw : W ≤ W') (hh : h ≤ h') : Vw W' h' d := ⟨c.sh, Nat.le_trans c.w hw, Nat.le_trans c.dp hh, c.ld⟩
theorem Vw.ofPl {W h : Nat} {d : D} (p : Dk.pl d = true) (hw : wgt d ≤ W) (hh : d.depth ≤ h) : Vw W h d := let ⟨h1, h2, _, _⟩ := pl_all p; ⟨h1, hw, hh, .inl h2⟩
theorem showA_iff : ∀ {ds : List D}, PyData.showableAll ds = true ↔ ∀ d ∈ ds, d.showable = true
  | [] => by simp [PyData.showableAll]
  | d :: ds => by
    rw [PyData.showableAll, Bool.and_eq_true, showA_iff]
    simp
theorem Vw.repr {W h : Nat} {d : D} (c : Vw W h d) (hw : W ≤ 16777216) (hh : h ≤ 100) : reprOk d := ⟨c.sh, Nat.le_trans (shown_le d) (Nat.le_trans c.w (by rw [sizeLine_eq]; exact hw)), Nat.le_trans c.dp hh, c.ld⟩
theorem Vw.list {ds : List D} (p : plA ds = true) : Vw (wgt (.list ds)) (PyData.list ds).depth (.list ds) := by
  obtain ⟨h1, _, h3, _⟩ := plA_all p
  exact ⟨by rw [PyData.showable]; exact h1, Nat.le_refl _, Nat.le_refl _, .inr (by rw [PyData.hasDict]; exact h3)⟩
end Dk
namespace Dk
open PySem PySem.Spec PyProof.Rows L2
def Bud (p : Pen) (b : Nat) : Prop := 0 ≤ p.at_ ∧ p.at_ + b ≤ 2147483648
theorem cmul {i j : Int} (hi : i.natAbs < 2 ^ 1000) (hj : j.natAbs < 2 ^ 1000) : CMulW i j := by
  unfold CMulW
  have f : ∀ n : Nat, n < 2 ^ 1000 → n.log2 < 1000 := fun n h => by
    by_cases h0 : n = 0
    · subst h0; decide
    · exact (Nat.log2_lt h0).mpr h
  have := f _ hi
  have := f _ hj
  omega
theorem lt_pow {i : Int} (h0 : 0 ≤ i) (h : i < 1267650600228229401496703205376) : i.natAbs < 2 ^ 1000 := by
  refine Nat.lt_of_lt_of_le (m := 2 ^ 100) ?_ (Nat.pow_le_pow_right (by decide) (by decide))
  have e : (2 : Nat) ^ 100 = 1267650600228229401496703205376 := by decide
  omega
theorem gets_at {xs : List D} {i : Int} {k : D → Prop} (h0 : 0 ≤ i) (h1 : i < xs.length) (h : ∀ d ∈ xs, k d) : gets (atI xs i) k := by
  rw [atI_of h0, List.getElem?_eq_getElem (by omega)]
  exact h _ (List.getElem_mem _)
def spSpread : DSp := fun as pn P => ∃ c a : Int, as = [.val (.int c), .val (.int a)] ∧ 0 ≤ a ∧ a < 2147483648 ∧ ∀ r, P (.int r) pn
def isP : D → Bool
  | .int p => decide (0 < p) && decide (p < 2147483648)
  | _ => false
theorem isP_int {d : D} (h : isP d = true) : ∃ p : Int, d = .int p ∧ 0 < p ∧ p < 2147483648 := by
  cases d with
  | int p => simp [isP] at h; exact ⟨p, rfl, h.1, h.2⟩
  | _ => cases h
theorem gets_pr {xs : List D} {i : Int} {k : D → Prop} (hx : xs.all isP = true) (h0 : 0 ≤ i) (h1 : i < xs.length) (h : ∀ p : Int, 0 < p → p < 2147483648 → k (.int p)) : gets (atI xs i) k :=
  gets_at h0 h1 fun d hd => by
    obtain ⟨p, rfl, h2, h3⟩ := isP_int (List.all_eq_true.mp hx d hd)
    exact h p h2 h3
theorem mul_bd {x y a b : Int} (h0 : 0 ≤ x) (h1 : x ≤ a) (h2 : 0 ≤ y) (h3 : y ≤ b) : 0 ≤ x * y ∧ x * y ≤ a * b :=
  ⟨Int.mul_nonneg h0 h2, Int.mul_le_mul h1 h3 h2 (by omega)⟩
theorem pow_bd {x : Int} {n : Int} (hn : 0 ≤ n) (hn2 : n ≤ 1000000) (h0 : 0 ≤ x) (h1 : x < 18446744073709551616) : CPow x n := by
  refine ⟨hn, hn2, ?_⟩
  have e : (2 : Nat) ^ 64 = 18446744073709551616 := by decide
  omega
theorem cm {x y : Int} (h0 : 0 ≤ x) (h1 : x < 1267650600228229401496703205376) (h2 : 0 ≤ y) (h3 : y < 1267650600228229401496703205376) : CMulW x y := cmul (lt_pow h0 h1) (lt_pow h2 h3)
def spTake : DSp := fun as pn P => ∃ (p : Pen) (n : Int) (b : Nat), as = [.pen, .val (.int n)] ∧ pn = some p ∧ Bud p (b + 1) ∧ 0 < n ∧ n < 1267650600228229401496703205376 ∧ ∀ i p', 0 ≤ i → i < n → Bud p' b → P (.int i) (some p')
theorem cdiv {x y : Int} (h0 : 0 < y) (h : y < 1267650600228229401496703205376) : CDivW x y := by
  refine ⟨h0, ?_⟩
  have := (Nat.log2_lt (n := y.natAbs) (k := 1000) (by omega)).mpr (lt_pow (by omega) h)
  omega
def seqA : Dk.Arg → Option (List D)
  | .val (.list ds) => some ds
  | .val (.tuple ds) => some ds
  | .bor ds => some ds
  | _ => none
def spOneOf : DSp := fun as pn P => ∃ (p : Pen) (a : Dk.Arg) (ds : List D) (b : Nat), as = [.pen, a] ∧ seqA a = some ds ∧ pn = some p ∧ Bud p (b + 1) ∧ ds ≠ [] ∧ ds.length ≤ 16777216 ∧ ∀ d ∈ ds, ∀ p', Bud p' b → P d (some p')
def spOpen : DSp := fun as pn P => ∃ ns : List Int, as = [.scr ns] ∧ pn = none ∧ ∀ cells, P (penL cells) none
theorem gets_ixN {n : Nat} {i : Int} {k : Nat → Prop} (h0 : 0 ≤ i) (h1 : i < n) (h : k i.toNat) : gets (ixN n i) k := by
  unfold ixN
  rw [if_pos h0, if_pos h1]
  exact h
def oddL : List D := [.none, .bool true, .bool false, .int 0, .int 1, .int (-1), .int 2, .int 3, .int 20, .int 24, .int 1000, .int 1001, .int 1000000, .int 1000001, .int 1000000000000000000000000000000, .str "", .str "a", .tuple [], .list [], .dict []] ++
  [.tuple [.int 0], .tuple [.int 0, .tuple []], .tuple [.int 1, .int 0], .tuple [.tuple [.int 0], .tuple []], .list [.int 0], .tuple [.int 0, .int 0, .int 0], .tuple [.tuple [.int 1], .tuple [.int 0]], .str "kept", .str "mixed"]
theorem odd_vw : ∀ d ∈ oddL, Vw 100 5 d := fun d h => Vw.of (List.all_eq_true.mp (show (oddL.all (vw 100 5)) = true by decide +kernel) d h)
abbrev Alt := List Int × List Nat
abbrev Memo := List (List Alt)
def needsL (ns : List Nat) : List D := ns.map fun (n : Nat) => PyData.int (n : Int)
def altD (a : Alt) : D := .tuple [.tuple (a.1.map .int), .tuple (needsL a.2)]
def nodeD (n : List Alt) : D := .tuple (n.map altD)
def memoD (m : Memo) : D := .tuple (m.map nodeD)
def Good (m : Memo) : Prop := ∀ (i : Nat) (n : List Alt), m[i]? = some n → n ≠ [] ∧ n.length ≤ 1000 ∧ ∀ a : Alt, a ∈ n → a.2.length ≤ 2 ∧ ∀ x ∈ a.2, x < i
def isPlan (m : Memo) : Nat → Nat → D → Bool
  | f + 1, node, .tuple [.int k, .tuple parts] => match m[node]? with
    | some n => if 0 ≤ k ∧ k < n.length then (match n[k.toNat]? with
      | some a => decide (parts.length = a.2.length) && (List.zipWith (isPlan m f) a.2 parts).all id
      | none => false) else false
    | none => false
  | _, _, _ => false
@[simp] theorem eqOk_int {i j : Int} : eqOk (.int i) (.int j) = true := by
  unfold eqOk
  rw [show SeqAt.shaped (.int i) = true from rfl, show SeqAt.shaped (.int j) = true from rfl]
  rfl
@[simp] theorem eqv_int {i j : Int} : PyData.eqv (.int i) (.int j) = (i == j) := rfl
theorem atR {xs : List D} {n : Nat} {d : D} (h : xs[n]? = some d) (k : D → Prop) : gets (atI xs (n : Int)) k = k d := by rw [Dk.atI_nat, h]; rfl
def bigN : Nat := 10 ^ 200
mutual
def sm : D → Bool
  | .none => true
  | .bool _ => true
  | .int i => decide (i.natAbs < bigN)
  | .str _ => false
  | .list _ => false
  | .tuple ds => decide (ds.length ≤ 900) && smA ds
  | .dict _ => false
def smA : List D → Bool
  | [] => true
  | d :: ds => sm d && smA ds
end
theorem sm_tuple {ds : List D} : sm (.tuple ds) = (decide (ds.length ≤ 900) && smA ds) := by rw [sm]
theorem sm_tup {ds : List D} : sm (.tuple ds) = true ↔ ds.length ≤ 900 ∧ smA ds = true := by rw [sm_tuple, Bool.and_eq_true, decide_eq_true_eq]
theorem smA_iff : ∀ {ds : List D}, smA ds = true ↔ ∀ d ∈ ds, sm d = true
  | [] => by simp [smA]
  | d :: ds => by
    rw [smA, Bool.and_eq_true, smA_iff]
    simp
theorem wgt_small {i : Int} (h : i.natAbs < 1000000000000) : wgt (.int i) ≤ 13 := by
  rw [wgt]
  exact PyData.shown_int_le h
theorem big {x : Int} (h0 : 0 ≤ x) (h : x < 1000000000000000000000000000000000000000000000000000000000000) : x.natAbs < 2 ^ 1000 := by
  refine Nat.lt_of_lt_of_le (m := 2 ^ 200) ?_ (Nat.pow_le_pow_right (by decide) (by decide))
  have e : (2 : Nat) ^ 200 = 1606938044258990275541962092341162602522202993782792835301376 := by decide
  omega
theorem bud_le {p : Pen} {b c : Nat} (h : Bud p c) (e : b ≤ c) : Bud p b := ⟨h.1, by have := h.2; omega⟩
theorem wgts_map {α : Type} {g : α → D} {c : Nat} : ∀ {xs : List α}, (∀ x ∈ xs, wgt (g x) ≤ c) → wgts (xs.map g) ≤ xs.length * (c + 2)
  | [], _ => by simp [wgts_nil]
  | x :: xs, h => by
    have h1 := h x (by simp)
    have h2 := wgts_map (xs := xs) fun y hy => h y (by simp [hy])
    rw [List.map_cons, wgts_cons, List.length_cons, Nat.succ_mul]
    omega
theorem plA_map {α : Type} {g : α → D} {xs : List α} (h : ∀ x ∈ xs, pl (g x) = true) : plA (xs.map g) = true := plA_iff.mpr fun d hd => by
  obtain ⟨x, hx, rfl⟩ := List.mem_map.mp hd
  exact h x hx
theorem depth_map {α : Type} {g : α → D} {c : Nat} {xs : List α} (h : ∀ x ∈ xs, (g x).depth ≤ c) : PyData.depthAll (xs.map g) ≤ c := depthAll_le.mpr fun d hd => by
  obtain ⟨x, hx, rfl⟩ := List.mem_map.mp hd
  exact h x hx
def wP : Nat → Nat
  | 0 => 0
  | f + 1 => 30 + 2 * wP f
structure PlanT (m : Memo) (f node : Nat) (d : D) : Prop where
  sh : ∃ (k : Int) (parts : List D), d = .tuple [.int k, .tuple parts]
  p : sm d = true
  w : wgt d ≤ wP f
  dp : d.depth ≤ 2 * f
  ip : isPlan m f node d = true
theorem take_snocA {α : Type} {xs : List α} {i : Nat} {d : α} (h : xs[i]? = some d) : xs.take (i + 1) = xs.take i ++ [d] := by
  obtain ⟨hi, e⟩ := List.getElem?_eq_some_iff.mp h
  rw [List.take_succ_eq_append_getElem hi, e]
theorem lcW_map {S : Type} [StK S] {α : Type} {c : Sc} {items : List D} {g : (GW S)} {te : (OW S)} {vs : List Nat} {Q : List D → (En S) → Prop} {ρ0 : (En S)} {ts : List α} (e f : α → D) (hi : items = ts.map e) (hc : c.items ρ0 = some items)
    (step : ∀ t ∈ ts, ∀ N : D → (En S) → Prop, N (f t) ρ0 → g (e t) ρ0 fun ρ1 => te ρ1 fun k ρ3 => gets k.valD fun y => N y ⟨wipeD ρ3.sl vs, ρ3.pn⟩)
    (q : Q (ts.map f) ρ0) : lcW c items g dYes te vs Q items [] ρ0 := by
  refine lcW_inv (fun i acc ρ => ρ = ρ0 ∧ acc = (ts.take i).map f) ?_ ?_ ?_ ⟨rfl, rfl⟩
  · rintro i acc ρ ⟨rfl, _⟩
    exact hc
  · rintro i d acc ρ h ⟨rfl, rfl⟩ N hN
    rw [hi, List.getElem?_map] at h
    obtain ⟨t, h1, rfl⟩ := Option.map_eq_some_iff.mp h
    have := step t (List.mem_of_getElem? h1) (fun y ρ' => N ((ts.take i).map f ++ [y]) ρ') (hN _ _ ⟨rfl, by rw [take_snocA h1, List.map_append]; rfl⟩)
    exact this
  · rintro acc ρ ⟨rfl, rfl⟩
    rw [hi, List.length_map, List.take_length]
    exact q
theorem rds_pen {sl : List Sl} {p q : Option Pen} : ∀ ks : List Tk, rds (⟨sl, p⟩ : En) ks = rds (⟨sl, q⟩ : En) ks
  | [] => rfl
  | k :: ks => by
    rw [rds_cons, rds_cons, rds_pen ks]
    cases k <;> rfl
theorem items_pen {c : Sc} {sl : List Sl} {p q : Option Pen} : c.items (⟨sl, p⟩ : En) = c.items (⟨sl, q⟩ : En) := by
  unfold Sc.items
  rw [rds_pen]
theorem lcW_draw {c : Sc} {items : List D} {g : GW} {te : OW} {vs : List Nat} {Q : List D → En → Prop} {sl : List Sl} {p : Pen} (R : D → Prop) (n b cst : Nat) (hn : items.length = n) (hc : c.items (⟨sl, none⟩ : En) = some items) (hb : Bud p (b + cst * n))
    (step : ∀ (i : Nat) (d : D), items[i]? = some d → ∀ (q : Pen) (b' : Nat), Bud q (b' + cst) → b ≤ b' → ∀ N : D → En → Prop, (∀ y q', R y → Bud q' b' → N y ⟨sl, some q'⟩) → g d ⟨sl, some q⟩ fun ρ1 => te ρ1 fun k ρ3 => gets k.valD fun y => N y ⟨wipeD ρ3.sl vs, ρ3.pn⟩)
    (fin : ∀ acc q, acc.length = n → (∀ d ∈ acc, R d) → Bud q b → Q acc ⟨sl, some q⟩) : lcW c items g dYes te vs Q items [] ⟨sl, some p⟩ := by
  refine lcW_inv (fun i acc ρ => ∃ q : Pen, ρ = ⟨sl, some q⟩ ∧ acc.length = i ∧ i ≤ n ∧ (∀ d ∈ acc, R d) ∧ Bud q (b + cst * (n - i))) ?_ ?_ ?_ ⟨p, rfl, rfl, Nat.zero_le _, by simp, hb⟩
  · rintro i acc ρ ⟨q, rfl, _⟩
    rw [← hc]
    exact items_pen
  · rintro i d acc ρ h ⟨q, rfl, hl, hin, hR, hq⟩ N hN
    have hlt : i < n := by rw [← hn]; exact (List.getElem?_eq_some_iff.mp h).1
    have e : b + cst * (n - i) = b + cst * (n - (i + 1)) + cst := by
      rw [show n - i = (n - (i + 1)) + 1 by omega, Nat.mul_succ]; omega
    have := step i d h q (b + cst * (n - (i + 1))) (by rw [← e]; exact hq) (by omega) (fun y ρ' => N (acc ++ [y]) ρ') (fun y q' hy hq' => hN _ _ ⟨q', rfl, by simp [hl], hlt, fun z hz => by
      rcases List.mem_append.mp hz with hz | hz
      · exact hR z hz
      · rw [List.mem_singleton.mp hz]; exact hy, hq'⟩)
    exact this
  · rintro acc ρ ⟨q, rfl, hl, _, hR, hq⟩
    rw [hn] at hl hq
    exact fin acc q hl hR (bud_le hq (by omega))
section
variable {α : Type} {g : List α → List Alt → α}
def dp (g : List α → List Alt → α) (m : Memo) : List α := m.foldl (fun acc n => acc ++ [g acc n]) []
theorem dp_snoc (m : Memo) (n : List Alt) : dp g (m ++ [n]) = dp g m ++ [g (dp g m) n] := by simp [dp, List.foldl_append]
theorem dp_pre : ∀ (m : Memo) (acc : List α), ∃ r, m.foldl (fun acc n => acc ++ [g acc n]) acc = acc ++ r ∧ r.length = m.length
  | [], acc => ⟨[], by simp, rfl⟩
  | n :: m, acc => by
    obtain ⟨r, h1, h2⟩ := dp_pre m (acc ++ [g acc n])
    exact ⟨g acc n :: r, by rw [List.foldl_cons, h1]; simp, by simp [h2]⟩
theorem dp_len (m : Memo) : (dp g m).length = m.length := by
  obtain ⟨r, h1, h2⟩ := dp_pre (g := g) m []
  unfold dp
  rw [h1]
  simpa using h2
theorem dp_take (m : Memo) (i : Nat) : (dp g m).take i = dp g (m.take i) := by
  by_cases hi : i ≤ m.length
  · obtain ⟨r, h1, h2⟩ := dp_pre (g := g) (m.drop i) (dp g (m.take i))
    have e : dp g m = dp g (m.take i) ++ r := by
      rw [← h1]
      unfold dp
      rw [← List.foldl_append, List.take_append_drop]
    rw [e, List.take_append_of_le_length (by rw [dp_len, List.length_take]; omega), List.take_of_length_le (by rw [dp_len, List.length_take]; omega)]
  · rw [List.take_of_length_le (by rw [dp_len]; omega), List.take_of_length_le (by omega)]
def Loc (g : List α → List Alt → α) : Prop := ∀ (acc bcc : List α) (n : List Alt), (∀ a ∈ n, ∀ x ∈ a.2, x < acc.length) → g (acc ++ bcc) n = g acc n
theorem Loc.take (L : Loc g) {acc : List α} {n : List Alt} {i : Nat} (hi : i ≤ acc.length) (h : ∀ a ∈ n, ∀ x ∈ a.2, x < i) : g (acc.take i) n = g acc n := by
  have := L (acc.take i) (acc.drop i) n (fun a ha x hx => by have := h a ha x hx; rw [List.length_take]; omega)
  rw [List.take_append_drop] at this
  exact this.symm
theorem dp_at (m : Memo) {i : Nat} {n : List Alt} (h : m[i]? = some n) : (dp g m)[i]? = some (g (dp g (m.take i)) n) := by
  have hi := (List.getElem?_eq_some_iff.mp h).1
  have e : (dp g m).take (i + 1) = dp g (m.take i) ++ [g (dp g (m.take i)) n] := by
    rw [dp_take, take_snocA h, dp_snoc]
  have h2 : ((dp g m).take (i + 1))[i]? = (dp g m)[i]? := by rw [List.getElem?_take]; simp
  rw [← h2, e, List.getElem?_append_right (by rw [dp_len, List.length_take]; omega), dp_len, List.length_take]
  simp [show i - min i m.length = 0 by omega]
theorem dp_get (L : Loc g) {m : Memo} {i : Nat} {n : List Alt} (h : m[i]? = some n) (hn : ∀ a ∈ n, ∀ x ∈ a.2, x < i) : (dp g m)[i]? = some (g (dp g m) n) := by
  have hi := (List.getElem?_eq_some_iff.mp h).1
  rw [dp_at m h, ← dp_take, L.take (by rw [dp_len]; omega) hn]
theorem getD_app {acc bcc : List α} {x : Nat} {d : α} (h : x < acc.length) : (acc ++ bcc).getD x d = acc.getD x d := by
  rw [List.getD_eq_getElem?_getD, List.getD_eq_getElem?_getD, List.getElem?_append_left h]
theorem getD_of {l : List α} {i : Nat} {d y : α} (h : l[i]? = some y) : l.getD i d = y := by
  rw [List.getD_eq_getElem?_getD, h]; rfl
end
def gI (cs : List Int) (x : Nat) : Int := cs.getD x 0
def pN (cs : List Int) (ns : List Nat) : Int := (ns.map (gI cs)).foldl (· * ·) 1
def sN (cs : List Int) (ns : List Nat) : Int := (ns.map (gI cs)).sum
def cntN (cs : List Int) (n : List Alt) : Int := (n.map fun a => pN cs a.2).sum
def partsN (ps : List Int) (n : List Alt) : Int := 1 + (maxI (n.map fun a => sN ps a.2)).getD 0
theorem gI_app {acc bcc : List Int} {x : Nat} (h : x < acc.length) : gI (acc ++ bcc) x = gI acc x := getD_app h
theorem pN_app {acc bcc : List Int} {ns : List Nat} (h : ∀ x ∈ ns, x < acc.length) : pN (acc ++ bcc) ns = pN acc ns := by
  unfold pN
  rw [List.map_congr_left fun x hx => gI_app (h x hx)]
theorem sN_app {acc bcc : List Int} {ns : List Nat} (h : ∀ x ∈ ns, x < acc.length) : sN (acc ++ bcc) ns = sN acc ns := by
  unfold sN
  rw [List.map_congr_left fun x hx => gI_app (h x hx)]
theorem cnt_loc : Loc cntN := fun acc bcc n h => by
  unfold cntN
  rw [List.map_congr_left fun a ha => pN_app (h a ha)]
theorem parts_loc : Loc partsN := fun acc bcc n h => by
  unfold partsN
  rw [List.map_congr_left fun a ha => sN_app (h a ha)]
abbrev cnts (m : Memo) : List Int := dp cntN m
abbrev prts (m : Memo) : List Int := dp partsN m
def CntB (m : Memo) : Prop := ∀ c ∈ cnts m, 0 ≤ c ∧ c ≤ 10000000000000000000000000000000000000000
theorem CntB.gI {m : Memo} (h : CntB m) (x : Nat) : 0 ≤ gI (cnts m) x ∧ gI (cnts m) x ≤ 10000000000000000000000000000000000000000 := by
  unfold Dk.gI
  rw [List.getD_eq_getElem?_getD]
  cases e : (cnts m)[x]? with
  | none => exact ⟨by decide, by decide⟩
  | some y => exact h y (List.mem_of_getElem? e)
def FineA (size i : Nat) (a : Alt) : Prop := (a.1.length = size ∧ ∀ x ∈ a.1, 0 ≤ x ∧ x ≤ 1000000) ∧ a.2.length ≤ 2 ∧ ∀ x ∈ a.2, x < i
theorem FineA.mono {size i j : Nat} {a : Alt} (h : FineA size i a) (e : i ≤ j) : FineA size j a := ⟨h.1, h.2.1, fun x hx => Nat.lt_of_lt_of_le (h.2.2 x hx) e⟩
structure Fine (size most : Nat) (B : Int) (m : Memo) : Prop where
  node : ∀ (i : Nat) (n : List Alt), m[i]? = some n → n ≠ [] ∧ n.length ≤ most ∧ ∀ a : Alt, a ∈ n → FineA size i a
  cnt : ∀ c ∈ cnts m, 1 ≤ c ∧ c ≤ B
  prt : ∀ c ∈ prts m, 1 ≤ c ∧ c ≤ 31
theorem Fine.nil {size most : Nat} {B : Int} : Fine size most B [] := ⟨fun i n hn => by simp at hn, fun c hc => by simp [dp] at hc, fun c hc => by simp [dp] at hc⟩
theorem Fine.snoc {size most : Nat} {B : Int} {m : Memo} {n : List Alt} (h : Fine size most B m) (h0 : n ≠ []) (h1 : n.length ≤ most) (h2 : ∀ a ∈ n, FineA size m.length a) (hc : 1 ≤ cntN (cnts m) n ∧ cntN (cnts m) n ≤ B) (hp : 1 ≤ partsN (prts m) n ∧ partsN (prts m) n ≤ 31) : Fine size most B (m ++ [n]) := by
  refine ⟨fun i x hx => ?_, fun c hc' => ?_, fun c hc' => ?_⟩
  · by_cases hi : i < m.length
    · rw [List.getElem?_append_left hi] at hx
      exact h.node i x hx
    · rw [List.getElem?_append_right (by omega)] at hx
      by_cases e : i = m.length
      · subst e
        simp at hx
        subst hx
        exact ⟨h0, h1, h2⟩
      · rw [List.getElem?_eq_none (by simp; omega)] at hx
        cases hx
  · rw [show cnts (m ++ [n]) = cnts m ++ [cntN (cnts m) n] from dp_snoc m n] at hc'
    rcases List.mem_append.mp hc' with hc' | hc'
    · exact h.cnt c hc'
    · rw [List.mem_singleton.mp hc']; exact hc
  · rw [show prts (m ++ [n]) = prts m ++ [partsN (prts m) n] from dp_snoc m n] at hc'
    rcases List.mem_append.mp hc' with hc' | hc'
    · exact h.prt c hc'
    · rw [List.mem_singleton.mp hc']; exact hp
end Dk
namespace Dk
open PySem PySem.Spec PyProof.Rows L2
def cod (x : Str) : List Nat := x.cps.toList
theorem cod_app (a b : Str) : cod (a ++ b) = cod a ++ cod b := by
  unfold cod
  rw [show (a ++ b).cps = a.cps ++ b.cps from rfl, Array.toList_append]
theorem cod_int (i : Int) : cod (PyData.shown (.int i)) = (toString i).toList.map Char.toNat := by
  exact PyProof.Rows.signs_ofString (toString i)
theorem cod_none : cod (PyData.shown .none) = [78, 111, 110, 101] := by show cod (Str.ofString "None") = _; decide
theorem cod_true : cod (PyData.shown (.bool true)) = [84, 114, 117, 101] := by show cod (Str.ofString "True") = _; decide
theorem cod_false : cod (PyData.shown (.bool false)) = [70, 97, 108, 115, 101] := by show cod (Str.ofString "False") = _; decide
def tailT : List Str → List Nat
  | [] => []
  | t :: ts => 44 :: 32 :: (cod t ++ tailT ts)
def bodyT : List Str → List Nat
  | [] => []
  | t :: ts => cod t ++ tailT ts
theorem cod_join : ∀ ts : List Str, cod (Str.join ", " ts) = bodyT ts
  | [] => rfl
  | [x] => by show cod x = cod x ++ []; simp
  | x :: y :: r => by
    have ih := cod_join (y :: r)
    show cod (x ++ ", " ++ Str.join ", " (y :: r)) = _
    rw [cod_app, cod_app, ih, show cod ((", " : String) : Str) = [44, 32] by decide]
    simp [bodyT, tailT]
theorem cod_from : ∀ (ts : List Str) (k : Nat) (acc : Str), cod (textFrom k acc ts) = cod acc ++ (if k = 0 then bodyT ts else tailT ts)
  | [], k, acc => by
    show cod acc = _
    split <;> simp [bodyT, tailT]
  | t :: ts, k, acc => by
    show cod (textFrom (k + 1) (acc ++ (if k > 0 then ", " else "" : String) ++ t) ts) = _
    rw [cod_from ts, if_neg (Nat.succ_ne_zero k), cod_app, cod_app]
    by_cases hk : k = 0
    · subst hk
      simp [bodyT, show cod (("" : String) : Str) = [] by decide]
    · rw [if_pos (show k > 0 by omega), if_neg hk, show cod ((", " : String) : Str) = [44, 32] by decide]
      simp [tailT]
theorem cod_list (ds : List D) : cod (PyData.shown (.list ds)) = 91 :: (bodyT (PyData.shownAll ds) ++ [93]) := by
  show cod (listText (PyData.shownAll ds)) = _
  unfold listText
  rw [cod_app, cod_from, if_pos rfl, show cod (("[" : String) : Str) = [91] by decide, show cod (("]" : String) : Str) = [93] by decide]
  simp
theorem cod_tuple (ds : List D) : cod (PyData.shown (.tuple ds)) = 40 :: (bodyT (PyData.shownAll ds) ++ (if ds.length = 1 then [44, 41] else [41])) := by
  show cod (tupleText (PyData.shownAll ds)) = _
  have hl : (PyData.shownAll ds).length = ds.length := by
    induction ds with
    | nil => rfl
    | cons d ds ih => simp [PyData.shownAll, ih]
  unfold tupleText
  rw [cod_app, cod_app, cod_join, hl, show cod (("(" : Str)) = [40] by decide]
  by_cases h : ds.length = 1
  · rw [if_pos (by simpa using h), if_pos h, show cod ((",)" : String) : Str) = [44, 41] by decide]
    simp
  · rw [if_neg (by simpa using h), if_neg h, show cod ((")" : String) : Str) = [41] by decide]
    simp
theorem shownAll_cons {d : D} {ds : List D} : PyData.shownAll (d :: ds) = d.shown :: PyData.shownAll ds := rfl
end Dk
namespace Dk
open PySem PySem.Spec PyProof.Rows L2
def dotI (xs ys : List Int) : Int := ((xs.zip ys).map fun p => p.1 * p.2).sum
def ownC (cs : List (List Int)) (ams : List Int) : List Int := cs.map fun c => dotI c ams
theorem items1 {S : Type} [StK S] {k1 : Tk} {f : List D → Option (List D)} {sl : En S} {d : D} {items : List D} (h1 : k1.rd sl = some d) (h : f [d] = some items) : Sc.items ⟨[k1], f⟩ sl = some items := by
  unfold Sc.items rds
  rw [h1]
  exact h
section
variable {S : Type} [StK S] {α : Type} {c : Sc} {items : List D} {g : (GW S)} {te : (OW S)} {vs : List Nat} {Q : List D → (En S) → Prop} {ρ0 : (En S)} {ts : List α}
theorem lcW_mapB (e : α → D) (h : α → Bool) (hi : items = ts.map e) (hc : c.items ρ0 = some items)
    (step : ∀ t ∈ ts, ∀ N : D → (En S) → Prop, N (.bool (h t)) ρ0 → g (e t) ρ0 fun ρ1 => te ρ1 fun k ρ3 => gets k.valD fun y => N y ⟨wipeD ρ3.sl vs, ρ3.pn⟩)
    (q : Q ((ts.map h).map .bool) ρ0) : lcW c items g dYes te vs Q items [] ρ0 :=
  lcW_map e (fun t => .bool (h t)) hi hc step (by rw [List.map_map] at q; exact q)
end
structure Cor (size : Nat) (cs : List (List Int)) : Prop where
  n0 : 1 ≤ cs.length
  n1 : cs.length ≤ 4
  c : ∀ c ∈ cs, c.length = size ∧ ∀ x ∈ c, 0 ≤ x ∧ x ≤ 1000
structure Mix (n : Nat) (mix : List Int) : Prop where
  len : mix.length = n
  x : ∀ x ∈ mix, 0 ≤ x ∧ x ≤ 1000000 * 10 ^ 90
  pos : 0 < mix.sum
theorem dot_bd {A B : Int} (hA : 0 ≤ A) (hB : 0 ≤ B) : ∀ {xs ys : List Int}, (∀ x ∈ xs, 0 ≤ x ∧ x ≤ A) → (∀ y ∈ ys, 0 ≤ y ∧ y ≤ B) → 0 ≤ dotI xs ys ∧ dotI xs ys ≤ xs.length * (A * B)
  | [], ys, _, _ => by simp [dotI]
  | x :: xs, [], _, _ => by
    have := Int.mul_nonneg hA hB
    have h2 : 0 ≤ ((x :: xs).length : Int) * (A * B) := Int.mul_nonneg (by omega) this
    simpa [dotI] using h2
  | x :: xs, y :: ys, hx, hy => by
    obtain ⟨h1, h2⟩ := dot_bd hA hB (xs := xs) (ys := ys) (fun z hz => hx z (by simp [hz])) (fun z hz => hy z (by simp [hz]))
    obtain ⟨x0, x1⟩ := hx x (by simp)
    obtain ⟨y0, y1⟩ := hy y (by simp)
    obtain ⟨m0, m1⟩ := mul_bd x0 x1 y0 y1
    have e : dotI (x :: xs) (y :: ys) = x * y + dotI xs ys := by simp [dotI]
    have e2 : ((x :: xs).length : Int) * (A * B) = (xs.length : Int) * (A * B) + A * B := by
      rw [List.length_cons, Int.natCast_add, Int.add_mul]
      simp
    rw [e, e2]
    omega
structure CostOk (m : Memo) (cs : List (List Int)) (mix : List Int) (size : Nat) : Prop where
  am : ∀ n ∈ m, ∀ a ∈ n, a.1.length = size ∧ ∀ x ∈ a.1, 0 ≤ x ∧ x ≤ 1000000
  sz : size ≤ 100
  co : ∀ c ∈ cs, c.length = size ∧ ∀ x ∈ c, 0 ≤ x ∧ x ≤ 1000
  ml : mix.length = cs.length
  mx : ∀ x ∈ mix, x.natAbs ≤ 2 ^ 4000
theorem cm_small {x y : Int} (hx : x.natAbs < 10 ^ 201) (hy : y.natAbs < 10 ^ 201) : CMulW x y := by
  have e : (10 : Nat) ^ 201 ≤ 2 ^ 1000 := by decide +kernel
  exact cmul (Nat.lt_of_lt_of_le hx e) (Nat.lt_of_lt_of_le hy e)
theorem lt201 {x : Int} (h0 : 0 ≤ x) (h : x ≤ 1000000000000000000000000000000) : x.natAbs < 10 ^ 201 := Nat.lt_of_le_of_lt (m := 1000000000000000000000000000000) (by omega) (by decide +kernel)
theorem CostOk.own {m : Memo} {cs : List (List Int)} {mix : List Int} {size : Nat} (K : CostOk m cs mix size) {n : List Alt} {a : Alt} (hn : n ∈ m) (ha : a ∈ n) : ∀ c ∈ cs, c.length = a.1.length ∧ ∀ p ∈ c.zip a.1, CMulW p.1 p.2 := fun c hc => by
  obtain ⟨h1, h2⟩ := K.am n hn a ha
  obtain ⟨h3, h4⟩ := K.co c hc
  refine ⟨by omega, fun p hp => ?_⟩
  obtain ⟨q1, q2⟩ := List.of_mem_zip hp
  have := h4 _ q1
  have := h2 _ q2
  exact cm_small (lt201 (by omega) (by omega)) (lt201 (by omega) (by omega))
theorem CostOk.at {m : Memo} {cs : List (List Int)} {mix : List Int} {size : Nat} (K : CostOk m cs mix size) {n : List Alt} {a : Alt} (hn : n ∈ m) (ha : a ∈ n) : (ownC cs a.1).length = mix.length ∧ ∀ p ∈ (ownC cs a.1).zip mix, CMulW p.1 p.2 := by
  refine ⟨by rw [K.ml]; simp [ownC], fun p hp => ?_⟩
  obtain ⟨q1, q2⟩ := List.of_mem_zip hp
  obtain ⟨c, hc, e⟩ := List.mem_map.mp q1
  obtain ⟨h1, h2⟩ := K.am n hn a ha
  obtain ⟨h3, h4⟩ := K.co c hc
  have hb := dot_bd (A := 1000) (B := 1000000) (by decide) (by decide) h4 h2
  have := K.sz
  have hx := K.mx _ q2
  rw [← e]
  have h5 : (dotI c a.1).natAbs < 2 ^ 1000 := Nat.lt_of_lt_of_le (lt201 hb.1 (by omega)) (by decide +kernel)
  exact wide_mul (a := 1000) (b := 4001) h5 (Nat.lt_of_le_of_lt hx (by decide +kernel)) (by decide) (by decide) (by decide)
end Dk
namespace Dk
open PySem PySem.Spec PyProof.Rows L2
theorem alt_ok {size i : Nat} {a : Alt} (hs : size ≤ 4) (hi : i ≤ 1000) (h : FineA size i a) : pl (altD a) = true ∧ wgt (altD a) ≤ 110 ∧ (altD a).depth ≤ 2 := by
  obtain ⟨⟨h1, h2⟩, h3, h4⟩ := h
  have p1 : plA (a.1.map PyData.int) = true := plA_map fun x hx => pl_int (by have := h2 x hx; omega)
  have p2 : plA (needsL a.2) = true := plA_map fun x hx => pl_int (by have := h4 x hx; omega)
  have w1 := wgts_map (g := PyData.int) (c := 13) (xs := a.1) fun x hx => wgt_small (by have := h2 x hx; omega)
  have w2 := wgts_map (g := fun n : Nat => PyData.int (n : Int)) (c := 13) (xs := a.2) fun x hx => wgt_small (by have := h4 x hx; omega)
  have w2 : wgts (needsL a.2) ≤ a.2.length * (13 + 2) := w2
  have d1 : PyData.depthAll (a.1.map PyData.int) ≤ 0 := depth_map fun _ _ => Nat.le_refl _
  have d2 : PyData.depthAll (needsL a.2) ≤ 0 := depth_map (g := fun n : Nat => PyData.int (n : Int)) fun _ _ => Nat.le_refl _
  unfold altD
  refine ⟨?_, ?_, ?_⟩
  · rw [pl_tuple, plA, plA, plA, pl_tuple, pl_tuple, p1, p2]; rfl
  · rw [wgt_tuple, wgts_cons, wgts_cons, wgts_nil, wgt_tuple, wgt_tuple]; omega
  · rw [depth_tuple, PyData.depthAll, PyData.depthAll, PyData.depthAll, depth_tuple, depth_tuple]; omega
abbrev VwA (d : D) : Prop := Vw 4000000 60 d
theorem VwA.repr {d : D} (h : VwA d) : reprOk d := Vw.repr h (by omega) (by omega)
end Dk
namespace Dk
open PySem PySem.Spec PyProof.Rows L2
variable {S : Type} [StK S]
section
variable {X : Cx} {e a b : Expr} {t u : (OW S)} {te : (DW S)} {pos p1 : Pos} {k : Nat}
def isLst : Option D → Bool
  | some (.list _) => true
  | _ => false
def idxD : D → D → Option Rs
  | .list ds, d => if (SeqAt.shaped (.list ds) && SeqAt.shaped d) = true then (ds.findIdx? fun z => PyData.eqv z d).map fun j => ri (j : Nat) else none
  | _, _ => none
def dIdx (t u : (OW S)) : (DW S) := fun ρ P => t ρ fun k1 ρ1 => isLst (k1.rd ρ1) = true ∧ u ρ1 fun k2 ρ2 => gets (k1.rd ρ2) fun d1 => gets (k2.rd ρ2) fun d2 => gets (idxD d1 d2) fun r => P r ρ2
end
@[simp↓] theorem z_dIdx {s0 : Sl} {l0 : List Sl} {pn : S} {ta tb : (OW S)} {P : Rs → (En S) → Prop} : dIdx ta tb ⟨s0 :: l0, pn⟩ P = ta ⟨s0 :: l0, pn⟩ fun k1 ρ1 => isLst (k1.rd ρ1) = true ∧ tb ρ1 fun k2 ρ2 => gets (k1.rd ρ2) fun d1 => gets (k2.rd ρ2) fun d2 => gets (idxD d1 d2) fun r => P r ρ2 := rfl
end Dk
namespace Dk
open PySem PySem.Spec PyProof.Rows L2
inductive Pl where
  | mk (k : Nat) (ps : List Pl)
inductive PlOk (m : Memo) : Nat → Pl → Prop
  | mk {node k : Nat} {n : List Alt} {a : Alt} {ps : List Pl} : m[node]? = some n → n[k]? = some a → ps.length = a.2.length → (∀ (j nd : Nat) (p : Pl), a.2[j]? = some nd → ps[j]? = some p → PlOk m nd p) → PlOk m node (.mk k ps)
def addV (xs ys : List Int) : List Int := (xs.zip ys).map fun p => p.1 + p.2
def altAt (m : Memo) (node k : Nat) : Alt := (m.getD node []).getD k ([], [])
theorem altAt_of {m : Memo} {node k : Nat} {n : List Alt} {a : Alt} (h1 : m[node]? = some n) (h2 : n[k]? = some a) : altAt m node k = a := by
  unfold altAt
  rw [show m.getD node [] = n from getD_of h1]
  exact getD_of h2
mutual
def amP (m : Memo) : Nat → Pl → List Int
  | node, .mk k ps => amPs m (altAt m node k).1 (altAt m node k).2 ps
def amPs (m : Memo) : List Int → List Nat → List Pl → List Int
  | acc, nd :: ns, p :: ps => amPs m (addV acc (amP m nd p)) ns ps
  | acc, _, _ => acc
end
end Dk
namespace Dk
open PySem PySem.Spec PyProof.Rows L2
section
variable {m : Memo} {size : Nat}
theorem amP_mk {node k : Nat} {n : List Alt} {a : Alt} {ps : List Pl} (hn : m[node]? = some n) (ha : n[k]? = some a) : amP m node (.mk k ps) = amPs m a.1 a.2 ps := by
  rw [amP, altAt_of hn ha]
variable {cs : List (List Int)} {mix : List Int}
end
end Dk
namespace Dk
open PySem PySem.Spec PyProof.Rows L2
theorem pairL_zip : ∀ xs ys : List D, pairL xs ys = (xs.zip ys).map fun p => PyData.tuple [p.1, p.2]
  | [], _ => rfl
  | _ :: _, [] => rfl
  | x :: xs, y :: ys => by
    have := pairL_zip xs ys
    unfold pairL at this ⊢
    rw [List.zipWith_cons_cons, this, List.zip_cons_cons, List.map_cons]
theorem addV_bd {xs ys : List Int} {A B : Int} (hx : ∀ x ∈ xs, 0 ≤ x ∧ x ≤ A) (hy : ∀ y ∈ ys, 0 ≤ y ∧ y ≤ B) : ∀ z ∈ addV xs ys, 0 ≤ z ∧ z ≤ A + B := fun z hz => by
  obtain ⟨p, hp, rfl⟩ := List.mem_map.mp hz
  obtain ⟨h1, h2⟩ := List.of_mem_zip hp
  have := hx _ h1
  have := hy _ h2
  omega
theorem amPs_bd {m : Memo} {B : Int} : ∀ (ns : List Nat) (ps : List Pl) (acc : List Int) (A : Int), ns.length ≤ 2 → 0 ≤ B → (∀ x ∈ acc, 0 ≤ x ∧ x ≤ A) → (∀ (j nd : Nat) (p : Pl), ns[j]? = some nd → ps[j]? = some p → ∀ x ∈ amP m nd p, 0 ≤ x ∧ x ≤ B) → ∀ x ∈ amPs m acc ns ps, 0 ≤ x ∧ x ≤ A + ns.length * B
  | [], ps, acc, A, _, _, h, _ => by rw [amPs]; simpa using h; all_goals simp
  | n :: ns, [], acc, A, _, hB, h, _ => by
    rw [amPs]
    · intro x hx
      have := h x hx
      have : 0 ≤ ((n :: ns).length : Int) * B := Int.mul_nonneg (by omega) hB
      omega
    all_goals simp
  | n :: ns, p :: ps, acc, A, hl, hB, h, hp => by
    intro x hx
    rw [amPs] at hx
    have := amPs_bd ns ps _ (A + B) (by simp at hl; omega) hB (addV_bd h (hp 0 n p rfl rfl)) (fun j nd' p' e1 e2 => hp (j + 1) nd' p' (by simpa using e1) (by simpa using e2)) x hx
    have e2 : ((n :: ns).length : Int) * B = (ns.length : Int) * B + B := by
      rw [List.length_cons, Int.natCast_add, Int.add_mul]
      simp
    omega
theorem amP_bd {m : Memo} (hm : Good m) (ha : ∀ n ∈ m, ∀ a ∈ n, ∀ x ∈ a.1, 0 ≤ x ∧ x ≤ 1000000) {node : Nat} {p : Pl} (h : PlOk m node p) : ∀ x ∈ amP m node p, 0 ≤ x ∧ x ≤ 1000000 * 2 ^ (node + 1) - 1000000 := by
  induction h with
  | @mk node k n a ps hn hk hl hp ih =>
    rw [amP_mk hn hk]
    obtain ⟨g1, g2⟩ := (hm node n hn).2.2 a (List.mem_of_getElem? hk)
    have pw : ∀ i : Nat, (0 : Int) < 2 ^ i := fun i => Int.pow_pos (by decide)
    have mono : ∀ (i d : Nat), (2 : Int) ^ i ≤ 2 ^ (i + d) := fun i d => by
      induction d with
      | zero => exact Int.le_refl _
      | succ d ihd => rw [← Nat.add_assoc, Int.pow_succ]; have := pw (i + d); omega
    intro x hx
    have := amPs_bd (m := m) (B := 1000000 * 2 ^ node - 1000000) a.2 ps a.1 1000000 g1 (by have := pw node; omega) (ha n (List.mem_of_getElem? hn) a (List.mem_of_getElem? hk)) (fun j nd p e1 e2 y hy => by
      have h1 := ih j nd p e1 e2 y hy
      have h2 := g2 nd (List.mem_of_getElem? e1)
      have h3 := mono (nd + 1) (node - (nd + 1))
      rw [show nd + 1 + (node - (nd + 1)) = node by omega] at h3
      omega) x hx
    have h2 : ((a.2.length : Nat) : Int) * (1000000 * 2 ^ node - 1000000) ≤ 2 * (1000000 * 2 ^ node - 1000000) := Int.mul_le_mul_of_nonneg_right (by omega) (by have := pw node; omega)
    rw [Int.pow_succ]
    omega
structure PriceOk (m : Memo) (cs : List (List Int)) (size : Nat) : Prop where
  am : ∀ n ∈ m, ∀ a ∈ n, a.1.length = size ∧ ∀ x ∈ a.1, 0 ≤ x ∧ x ≤ 1000000
  ml : m.length ≤ 24
  sz : size ≤ 100
  co : ∀ c ∈ cs, c.length = size ∧ ∀ x ∈ c, 0 ≤ x ∧ x ≤ 1000
theorem PlOk.lt {m : Memo} {node : Nat} {p : Pl} (h : PlOk m node p) : node < m.length := by
  cases h with
  | mk hn _ _ _ => exact (List.getElem?_eq_some_iff.mp hn).1
theorem PriceOk.ap {m : Memo} {cs : List (List Int)} {size : Nat} (K : PriceOk m cs size) (hm : Good m) {node : Nat} {p : Pl} (h : PlOk m node p) : ∀ x ∈ amP m node p, 0 ≤ x ∧ x ≤ 34000000000000 := fun x hx => by
  have h1 := amP_bd hm (fun n hn a ha => (K.am n hn a ha).2) h x hx
  have h2 : (2 : Int) ^ (node + 1) ≤ 2 ^ 24 := by
    have h3 := Nat.pow_le_pow_right (n := 2) (by decide) (show node + 1 ≤ 24 by have := h.lt; have := K.ml; omega)
    have e : ∀ k : Nat, ((2 ^ k : Nat) : Int) = 2 ^ k := fun k => by simp
    rw [← e, ← e]
    exact Int.ofNat_le.mpr h3
  have e3 : (2 : Int) ^ 24 = 16777216 := by decide
  omega
end Dk
namespace Dk
open PySem PySem.Spec PyProof.Rows L2
end Dk
namespace Dk
open PySem PySem.Spec PyProof.Rows L2
variable {S : Type} [StK S]
section
variable {X : Cx} {a : Expr} {t : (OW S)} {pos p p1 pos1 : Pos} {k : Nat}
def dRg1 (own : Bool) (t : (OW S)) : (DW S) := fun ρ P => t ρ fun k ρ1 => gets ((k.rd ρ1).bind D.int?) fun j => (-(2 ^ 62) ≤ j ∧ j ≤ 16777216) ∧ P (if own then .own (rangeD 0 j.toNat) else .val (.tuple (rangeD 0 j.toNat))) ρ1
end
variable {t : (OW S)} {ρ : (En S)} {P : Rs → (En S) → Prop}
@[simp] theorem v_rgT : dRg1 false t ρ P = t ρ fun k ρ1 => gets ((k.rd ρ1).bind D.int?) fun j => (-(2 ^ 62) ≤ j ∧ j ≤ 16777216) ∧ P (.val (.tuple (rangeD 0 j.toNat))) ρ1 := rfl
@[simp] theorem v_rgL : dRg1 true t ρ P = t ρ fun k ρ1 => gets ((k.rd ρ1).bind D.int?) fun j => (-(2 ^ 62) ≤ j ∧ j ≤ 16777216) ∧ P (.own (rangeD 0 j.toNat)) ρ1 := rfl
end Dk
namespace Dk
open PySem PySem.Spec PyProof.Rows L2
variable {S : Type} [StK S]
section
variable {X : Cx}
def mulZ : D → D → Option Rs
  | .tuple xs, .int k => if -(2 ^ 63) ≤ k ∧ k ≤ 1000 ∧ xs.length ≤ 1000 then some (.val (.tuple (List.replicate k.toNat xs).flatten)) else none
  | a, b => mulD a b
end
@[simp↓] theorem g_mulZ {xs : List D} {i : Int} {k : Rs → Prop} : gets (mulZ (.tuple xs) (.int i)) k = ((-(2 ^ 63) ≤ i ∧ i ≤ 1000 ∧ xs.length ≤ 1000) ∧ k (.val (.tuple (List.replicate i.toNat xs).flatten))) := by unfold mulZ; exact g_ite
def isB (neg : Bool) (d e : D) : Option Rs := match d, e with
  | .bool a, .bool b => some (bl (if neg then !decide (a = b) else decide (a = b)))
  | d, e => isD neg d e
section
variable {X : Cx}
end
@[simp↓] theorem g_isB {a b : Bool} {k : Rs → Prop} : gets (isB false (.bool a) (.bool b)) k = k (.val (.bool (decide (a = b)))) := rfl
@[simp↓] theorem g_isBn {a b : Bool} {k : Rs → Prop} : gets (isB true (.bool a) (.bool b)) k = k (.val (.bool (!decide (a = b)))) := rfl
end Dk
namespace Dk
open PySem PySem.Spec PyProof.Rows L2
end Dk
namespace Dk
open PySem PySem.Spec PyProof.Rows L2
structure Sm (c h : Nat) (d : D) : Prop where
  p : pl d = true
  w : wgt d ≤ c
  dp : d.depth ≤ h
theorem Sm.mono {c h c' h' : Nat} {d : D} (s : Sm c h d) (hc : c ≤ c') (hh : h ≤ h') : Sm c' h' d := ⟨s.p, Nat.le_trans s.w hc, Nat.le_trans s.dp hh⟩
theorem Sm.vw {c h : Nat} {d : D} (s : Sm c h d) : Vw c h d := Vw.ofPl s.p s.w s.dp
theorem wgts_le {c : Nat} : ∀ {xs : List D}, (∀ d ∈ xs, wgt d ≤ c) → wgts xs ≤ xs.length * (c + 2)
  | [], _ => by simp [wgts_nil]
  | x :: xs, h => by
    have h1 := h x (by simp)
    have h2 := wgts_le (xs := xs) fun y hy => h y (by simp [hy])
    rw [wgts_cons, List.length_cons, Nat.succ_mul]
    omega
theorem Sm.tup {c h L : Nat} {xs : List D} (hx : ∀ d ∈ xs, Sm c h d) (hl : xs.length ≤ L) : Sm (L * (c + 2) + 3) (h + 1) (.tuple xs) := by
  refine ⟨by rw [pl_tuple]; exact plA_iff.mpr fun d hd => (hx d hd).p, ?_, ?_⟩
  · have h1 := wgts_le fun d hd => (hx d hd).w
    have h2 : xs.length * (c + 2) ≤ L * (c + 2) := Nat.mul_le_mul_right _ hl
    rw [wgt_tuple]
    omega
  · rw [depth_tuple]
    have := depthAll_le.mpr fun d hd => (hx d hd).dp
    omega
theorem Sm.int {i : Int} (h : i.natAbs < 1000000000000) : Sm 13 0 (.int i) := ⟨pl_int (by omega), wgt_small h, Nat.le_refl _⟩
theorem Sm.ints {is : List Int} {L : Nat} (h : ∀ i ∈ is, i.natAbs < 1000000000000) (hl : is.length ≤ L) : Sm (L * 15 + 3) 1 (.tuple (is.map .int)) := Sm.tup (c := 13) (h := 0) (fun d hd => by
  obtain ⟨i, hi, rfl⟩ := List.mem_map.mp hd
  exact Sm.int (h i hi)) (by rw [List.length_map]; exact hl)
theorem sm_alt {size i : Nat} {a : Alt} (hs : size ≤ 4) (hi : i ≤ 1000) (h : FineA size i a) : sm (altD a) = true ∧ Sm 110 2 (altD a) := by
  obtain ⟨p, w, d⟩ := alt_ok hs hi h
  obtain ⟨⟨h1, h2⟩, h3, h4⟩ := h
  refine ⟨?_, p, w, d⟩
  have big : ∀ k : Int, 0 ≤ k → k ≤ 1000000 → sm (.int k) = true := fun k k0 k1 => by
    rw [sm, decide_eq_true_eq]
    exact Nat.lt_of_lt_of_le (show k.natAbs < 1000001 by omega) (by decide +kernel)
  unfold altD
  rw [sm_tup]
  refine ⟨by simp, smA_iff.mpr fun d hd => ?_⟩
  simp only [List.mem_cons, List.not_mem_nil, or_false] at hd
  rcases hd with rfl | rfl
  · rw [sm_tup]
    refine ⟨by rw [List.length_map]; omega, smA_iff.mpr fun d hd => ?_⟩
    obtain ⟨x, hx, rfl⟩ := List.mem_map.mp hd
    have := h2 x hx
    exact big x this.1 this.2
  · rw [sm_tup]
    refine ⟨by unfold needsL; rw [List.length_map]; omega, smA_iff.mpr fun d hd => ?_⟩
    unfold needsL at hd
    obtain ⟨x, hx, rfl⟩ := List.mem_map.mp hd
    have := h4 x hx
    exact big x (by omega) (by omega)
structure MemoS (m : Memo) : Prop where
  n0 : m ≠ []
  n1 : m.length ≤ 5
  size : ∃ size, 1 ≤ size ∧ size ≤ 3 ∧ ∃ B, Fine size 5 B m
theorem MemoS.node {m : Memo} (M : MemoS m) {n : List Alt} (hn : n ∈ m) : n ≠ [] ∧ n.length ≤ 5 ∧ (∀ a ∈ n, sm (altD a) = true ∧ Sm 110 2 (altD a) ∧ 1 ≤ a.1.length ∧ a.1.length ≤ 3 ∧ (∀ x ∈ a.1, 0 ≤ x ∧ x ≤ 1000000) ∧ a.2.length ≤ 2 ∧ ∀ x ∈ a.2, x ≤ 5) := by
  obtain ⟨size, s1, s2, B, F⟩ := M.size
  obtain ⟨i, hi, e⟩ := List.mem_iff_getElem.mp hn
  obtain ⟨h1, h2, h3⟩ := F.node i n (by rw [List.getElem?_eq_getElem hi, e])
  have := M.n1
  refine ⟨h1, h2, fun a ha => ?_⟩
  obtain ⟨q1, q2⟩ := sm_alt (by omega) (by omega) (h3 a ha)
  obtain ⟨⟨g1, g2⟩, g3, g4⟩ := h3 a ha
  exact ⟨q1, q2, by omega, by omega, g2, g3, fun x hx => by have := g4 x hx; omega⟩
theorem MemoS.nodeS {m : Memo} (M : MemoS m) {n : List Alt} (hn : n ∈ m) : Sm 563 3 (nodeD n) := Sm.tup (c := 110) (h := 2) (L := 5) (fun d hd => by
  obtain ⟨a, ha, rfl⟩ := List.mem_map.mp hd
  exact ((M.node hn).2.2 a ha).2.1) (by rw [List.length_map]; exact (M.node hn).2.1)
theorem MemoS.nodes {m : Memo} (M : MemoS m) : ∀ d ∈ m.map nodeD, Sm 563 3 d := fun d hd => by
  obtain ⟨n, hn, rfl⟩ := List.mem_map.mp hd
  exact M.nodeS hn
theorem MemoS.memo {m : Memo} (M : MemoS m) : Sm 2828 4 (memoD m) := Sm.tup (c := 563) (h := 3) (L := 5) M.nodes (by rw [List.length_map]; exact M.n1)
theorem MemoS.sm {m : Memo} (M : MemoS m) : sm (memoD m) = true := by
  unfold memoD
  rw [sm_tup]
  refine ⟨by have := M.n1; rw [List.length_map]; omega, smA_iff.mpr fun d hd => ?_⟩
  obtain ⟨n, hn, rfl⟩ := List.mem_map.mp hd
  unfold nodeD
  rw [sm_tup]
  refine ⟨by have := (M.node hn).2.1; rw [List.length_map]; omega, smA_iff.mpr fun d hd => ?_⟩
  obtain ⟨a, ha, rfl⟩ := List.mem_map.mp hd
  exact ((M.node hn).2.2 a ha).1
end Dk
namespace Dk
open PySem PySem.Spec PyProof.Rows L2
variable {S : Type} [StK S]
section
variable {X : Cx} {k : Nat} {pins : List (Addr × Obj)} {σ : L2.St} {H F : Hp} {s : Shared}
mutual
theorem DR.reprK (I : L2.Inv X pins σ H s) (e : Le F H) : ∀ (d : D) (v : V) (u : Value), DR X.K F d v → RelV v u → d.showable = true → d.shown.length ≤ sizeLine →
    ∃ bs, ReadAtMost s.heap d.depth bs ∧ ReprK X.prog X.w bs s.heap d.depth u d.shown
  | .none, v, u, h, r, hs, hz => by
    obtain ⟨as, q, z⟩ := DR.reads I e _ v u (DR.rdb _ v h hs) h r
    exact ReprK.of_reads q hs (fun x => by simp [PyData.hasDict] at x) hz
  | .bool b, v, u, h, r, hs, hz => by
    obtain ⟨as, q, z⟩ := DR.reads I e _ v u (DR.rdb _ v h hs) h r
    exact ReprK.of_reads q hs (fun x => by simp [PyData.hasDict] at x) hz
  | .int i, v, u, h, r, hs, hz => by
    obtain ⟨as, q, z⟩ := DR.reads I e _ v u (DR.rdb _ v h hs) h r
    exact ReprK.of_reads q hs (fun x => by simp [PyData.hasDict] at x) hz
  | .str x, v, u, h, r, hs, hz => by
    obtain ⟨as, q, z⟩ := DR.reads I e _ v u (DR.rdb _ v h hs) h r
    exact ReprK.of_reads q hs (fun x => by simp [PyData.hasDict] at x) hz
  | .dict kvs, v, u, h, r, hs, hz => by
    obtain ⟨as, q, z⟩ := DR.reads I e _ v u (DR.rdb _ v h hs) h r
    exact ReprK.of_reads q hs (fun _ => z rfl) hz
  | .list xs, v, u, h, r, hs, hz => by
    obtain ⟨a, vs, rfl, h1, h2⟩ := DR.list_.mp h
    cases r
    obtain ⟨its, rv, ⟨o, n, ho, hc, _, hd⟩, _⟩ := I.list (.inl (.inl (e _ _ h1)))
    obtain ⟨as, hr, _⟩ := DRs.reads I e xs vs its (DRs.rdb xs vs h2 (by simpa [PyData.showable] using hs)) h2 rv
    have hz' : (listText (PyData.shownAll xs)).length ≤ sizeLine := by simpa only [PyData.shown] using hz
    obtain ⟨bs, hb, hk⟩ := DRs.reprK I e xs vs its h2 rv (by simpa [PyData.showable] using hs) (fun t ht => Nat.le_trans (listText_mem_le ht) hz')
    have r : Reads s.heap (.ref a) (.list xs) _ := .list ho hc hd hr
    have hna : a ∉ bs := not_mem_of_deeper r (by simp only [PyData.depth]; omega) hb
    refine ⟨a :: bs, ReadAtMost.cons r (by simp only [PyData.depth]; omega) hb, ?_⟩
    simp only [PyData.depth, PyData.shown]
    cases its with
    | nil =>
      cases hr
      simp only [PyData.shownAll, listText_nil]
      exact ReprK.listEmpty ho hc hd
    | cons x l => exact ReprK.list ho hc hd hna (by simpa using hk.length_eq) (fun i y e => hk.item i y (by simpa using e))
  | .tuple xs, v, u, h, r, hs, hz => by
    obtain ⟨a, vs, rfl, h1, h2⟩ := DR.tuple_s h
    cases r
    obtain ⟨its, rv, ⟨o, ho, hc, n, hd⟩, _⟩ := I.tuple (e.t h1)
    obtain ⟨as, hr, _⟩ := DRs.reads I e xs vs its (DRs.rdb xs vs h2 (by simpa [PyData.showable] using hs)) h2 rv
    have hz' : (tupleText (PyData.shownAll xs)).length ≤ sizeLine := by simpa only [PyData.shown] using hz
    obtain ⟨bs, hb, hk⟩ := DRs.reprK I e xs vs its h2 rv (by simpa [PyData.showable] using hs) (fun t ht => Nat.le_trans (tupleText_mem_le ht) hz')
    have r : Reads s.heap (.ref a) (.tuple xs) _ := .tuple ho hc hd hr
    have hna : a ∉ bs := not_mem_of_deeper r (by simp only [PyData.depth]; omega) hb
    refine ⟨a :: bs, ReadAtMost.cons r (by simp only [PyData.depth]; omega) hb, ?_⟩
    simp only [PyData.depth, PyData.shown]
    exact ReprK.tuple ho hc hd hna hk
theorem DRs.reprK (I : L2.Inv X pins σ H s) (e : Le F H) : ∀ (ds : List D) (vs : List V) (us : List Value), DRs X.K F ds vs → Vals vs us → PyData.showableAll ds = true → (∀ t ∈ PyData.shownAll ds, t.length ≤ sizeLine) →
    ∃ bs, ReadAtMost s.heap (PyData.depthAll ds) bs ∧ ReprAllK X.prog X.w bs s.heap (PyData.depthAll ds) us (PyData.shownAll ds)
  | [], vs, us, h, r, hs, hz => by
    rw [DRs.nil_.mp h] at r
    cases r
    exact ⟨[], (fun _ h => nomatch h), by simp only [PyData.shownAll]; exact .nil⟩
  | d :: ds, vs, us, h, r, hs, hz => by
    obtain ⟨v, vr, rfl, h2, h3⟩ := DRs.cons_.mp h
    cases r with
    | cons r1 r2 =>
      have hs' : d.showable = true ∧ PyData.showableAll ds = true := by simpa [PyData.showableAll] using hs
      obtain ⟨b1, hb1, k1⟩ := DR.reprK I e d _ _ h2 r1 hs'.1 (hz _ (by simp only [PyData.shownAll]; exact List.mem_cons_self ..))
      obtain ⟨b2, hb2, k2⟩ := DRs.reprK I e ds _ _ h3 r2 hs'.2 (fun t ht => hz t (by simp only [PyData.shownAll]; exact List.mem_cons_of_mem _ ht))
      refine ⟨b1 ++ b2, ?_, ?_⟩
      · intro b hm
        simp only [PyData.depthAll]
        rcases List.mem_append.mp hm with hm | hm
        · obtain ⟨d', as', r', hd'⟩ := hb1 b hm
          exact ⟨d', as', r', Nat.le_trans hd' (Nat.le_max_left _ _)⟩
        · obtain ⟨d', as', r', hd'⟩ := hb2 b hm
          exact ⟨d', as', r', Nat.le_trans hd' (Nat.le_max_right _ _)⟩
      · simp only [PyData.depthAll, PyData.shownAll]
        exact .cons ((k1.more fun b hb => List.mem_append_left _ hb).level_le (Nat.le_max_left _ _)) (k2.more_le (fun b hb => List.mem_append_right _ hb) (Nat.le_max_right _ _))
end
def reprOkZ (d : D) : Prop := d.showable = true ∧ d.shown.length ≤ sizeLine ∧ d.depth ≤ 100
instance {d : D} : Decidable (reprOkZ d) := by unfold reprOkZ; infer_instance
def reprZ : List D → Option Rs
  | [d] => if reprOkZ d then some (.val (.str d.shown)) else none
  | _ => none
@[simp↓] theorem g_reprZ {d : D} {k : Rs → Prop} : gets (reprZ [d]) k = (reprOkZ d ∧ k (.val (.str d.shown))) := by unfold reprZ; exact g_ite
theorem list_road {xs : List D} {a : Addr} {vs : List V} {its : List Value} {o : Obj} {n : Nat} {A : Around} {E : Value → Shared → Prop} {Q : Value → Shared → Prop} (I : L2.Inv X pins σ H s) (e : Le F H) (h2 : DRs X.K F xs vs) (rv : Vals vs its) (ho : s.heap.get? a = some o) (hc : o.cls = .type "list") (hd : o.data = .seq its.toArray n)
    (hs : (PyData.list xs).showable = true) (hz : (PyData.list xs).shown.length ≤ sizeLine) (hg : A.guards = some []) (hu : A.units + ((PyData.list xs).depth + 1) < cLine)
    (hQ : ∀ h' u tk, (∀ b o, s.heap.get? b = some o → h'.get? b = some o) → Q (.str (PyData.list xs).shown u) { s with heap := h', toks := tk }) : wpAny (model X.prog X.w) A (call (.builtin "repr") [.ref a]) Q E s := by
  obtain ⟨as, hr, _⟩ := DRs.reads I e xs vs its (DRs.rdb xs vs h2 (by simpa [PyData.showable] using hs)) h2 rv
  have hz' : (listText (PyData.shownAll xs)).length ≤ sizeLine := by simpa only [PyData.shown] using hz
  obtain ⟨bs, hb, hk⟩ := DRs.reprK I e xs vs its h2 rv (by simpa [PyData.showable] using hs) (fun t ht => Nat.le_trans (listText_mem_le ht) hz')
  have r : Reads s.heap (.ref a) (.list xs) _ := .list ho hc hd hr
  have hna : a ∉ bs := not_mem_of_deeper r (by simp only [PyData.depth]; omega) hb
  have S : ShowsBy X.prog X.w s.heap a (.list xs) "list" "list.__repr__" := by
    refine ⟨PySem.F.slot_list_repr.toG, PySem.F.slot_list_str, PySem.F.slot_list_format, fun s hk0 => ⟨o, hk0 _ _ ho, hc⟩, fun A E s' Q hg hu hk0 hQ => ?_⟩
    simp only [PyData.depth] at hu
    simp only [PyData.shown] at hQ
    cases its with
    | nil =>
      cases hr
      simp only [PyData.shownAll, listText_nil] at hQ
      exact call_list_repr_empty ⟨o, hk0 _ _ ho, hc⟩ (hk0 _ _ ho) hd (hQ s'.heap _ _ fun _ _ e => e)
    | cons x l =>
      exact call_list_reprK ho hc hd hna (by simpa using hk.length_eq) (fun i y e => hk.item i y (by simpa using e)) hg (fun b _ => Clear.nil b) hu hk0 hQ hz'
  exact call_repr_slot (by omega) (S.typeIs s (fun _ _ e => e)) S.slotRepr (S.call A.in1 E s _ hg (by show A.units + 1 + (PyData.list xs).depth < cLine; omega) (fun _ _ e => e) fun h' u tk hk => ⟨_, _, rfl, hQ h' u tk hk⟩)
theorem tup_road {xs : List D} {a : Addr} {vs : List V} {its : List Value} {o : Obj} {n : Nat} {A : Around} {E : Value → Shared → Prop} {Q : Value → Shared → Prop} (I : L2.Inv X pins σ H s) (e : Le F H) (h2 : DRs X.K F xs vs) (rv : Vals vs its) (ho : s.heap.get? a = some o) (hc : o.cls = .type "tuple") (hd : o.data = .seq its.toArray n)
    (hs : (PyData.tuple xs).showable = true) (hz : (PyData.tuple xs).shown.length ≤ sizeLine) (hg : A.guards = some []) (hu : A.units + ((PyData.tuple xs).depth + 1) < cLine)
    (hQ : ∀ h' u tk, (∀ b o, s.heap.get? b = some o → h'.get? b = some o) → Q (.str (PyData.tuple xs).shown u) { s with heap := h', toks := tk }) : wpAny (model X.prog X.w) A (call (.builtin "repr") [.ref a]) Q E s := by
  obtain ⟨as, hr, _⟩ := DRs.reads I e xs vs its (DRs.rdb xs vs h2 (by simpa [PyData.showable] using hs)) h2 rv
  have hz' : (tupleText (PyData.shownAll xs)).length ≤ sizeLine := by simpa only [PyData.shown] using hz
  obtain ⟨bs, hb, hk⟩ := DRs.reprK I e xs vs its h2 rv (by simpa [PyData.showable] using hs) (fun t ht => Nat.le_trans (tupleText_mem_le ht) hz')
  have r : Reads s.heap (.ref a) (.tuple xs) _ := .tuple ho hc hd hr
  have hna : a ∉ bs := not_mem_of_deeper r (by simp only [PyData.depth]; omega) hb
  have S : ShowsBy X.prog X.w s.heap a (.tuple xs) "tuple" "tuple.__repr__" := by
    refine ⟨PySem.F.slot_tuple_repr, PySem.F.slot_tuple_str, PySem.F.slot_tuple_format, fun s hk0 => ⟨o, hk0 _ _ ho, hc⟩, fun A E s' Q hg hu hk0 hQ => ?_⟩
    simp only [PyData.depth] at hu
    simp only [PyData.shown] at hQ
    exact call_tuple_reprK ho hc hd hna hk hg (fun b _ => Clear.nil b) hu hk0 hQ hz'
  exact call_repr_slot (by omega) (S.typeIs s (fun _ _ e => e)) S.slotRepr (S.call A.in1 E s _ hg (by show A.units + 1 + (PyData.tuple xs).depth < cLine; omega) (fun _ _ e => e) fun h' u tk hk => ⟨_, _, rfl, hQ h' u tk hk⟩)
theorem cd_reprZ (hx : XO X k) : CallD X (.builtin "repr") reprZ := by
  intro pins s σ H xs us Q I rv ⟨F, ds, r, ⟨hz0, hF⟩, hd, hg, q⟩
  unfold reprZ at hg
  split at hg
  · obtain ⟨⟨c1, c2, c3⟩, rfl⟩ := some_ite hg
    rename_i d
    by_cases hl : noList d = true ∨ d.hasDict = false
    · exact cd_repr hx pins s σ H xs us Q I rv ⟨F, [d], _, ⟨hz0, hF⟩, hd, by show (if reprOk d then _ else _) = _; rw [if_pos ⟨c1, c2, c3, hl⟩], q⟩
    · obtain ⟨v, rfl, h⟩ := hd.one
      obtain ⟨u, rfl, ru⟩ := vals1 rv
      have hu : X.A.units + (d.depth + 1) < cLine := by have := hx.room.un; omega
      have fin : ∀ (h' : Heap) (u : Tok) (tk : Nat), (∀ b o, s.heap.get? b = some o → h'.get? b = some o) → EP X pins σ Q (.str d.shown u) { s with heap := h', toks := tk } := fun h' u tk hk => ⟨.str d.shown, H, I.kept (t' := tk) hk, ⟨u, rfl⟩, q.str_⟩
      cases d with
      | list xs =>
        rcases h with h | ⟨ds, a, vs, e1, e2, h1, h2⟩
        · obtain ⟨a, vs, rfl, h1, h2⟩ := DR.list_.mp h
          cases ru
          obtain ⟨its, rv, ⟨o, n, ho, hc, _, hd⟩, _⟩ := I.list (.inl (.inl (hF _ _ h1)))
          exact list_road I hF h2 rv ho hc hd c1 c2 hx.gd hu fin
        · cases e1
          subst e2
          cases ru
          obtain ⟨its, rv, ⟨o, n, ho, hc, _, hd⟩, _⟩ := I.list (.inl (.inl h1))
          exact list_road I hF h2 rv ho hc hd c1 c2 hx.gd hu fin
      | tuple xs =>
        rcases h with h | ⟨ds, a, vs, e1, e2, h1, h2⟩
        · obtain ⟨a, vs, rfl, h1, h2⟩ := DR.tuple_s h
          cases ru
          obtain ⟨its, rv, ⟨o, ho, hc, n, hd⟩, _⟩ := I.tuple (hF.t h1)
          exact tup_road I hF h2 rv ho hc hd c1 c2 hx.gd hu fin
        · cases e1
      | _ => exact absurd (.inl rfl) hl
  · cases hg
end
end Dk
namespace Dk
open PySem PySem.Spec PyProof.Rows L2
def sizeM (m : Memo) : Nat := (((m[0]?).bind fun n => n[0]?).map fun a => a.1.length).getD 0
structure MemJ (m : Memo) : Prop where
  n0 : m ≠ []
  n1 : m.length ≤ 24
  node : ∀ n ∈ m, n ≠ [] ∧ n.length ≤ 20 ∧ ∀ a ∈ n, a.1.length = sizeM m ∧ (∀ x ∈ a.1, 0 ≤ x ∧ x ≤ 1000000) ∧ a.2.length ≤ 2 ∧ ∀ x ∈ a.2, x ≤ 30
  size : 1 ≤ sizeM m ∧ sizeM m ≤ 4
theorem MemJ.first {m : Memo} (M : MemJ m) : ∃ n a, m[0]? = some n ∧ n[0]? = some a ∧ a.1.length = sizeM m := by
  obtain ⟨n, hn⟩ : ∃ n, m[0]? = some n := ⟨_, List.getElem?_eq_getElem (List.length_pos_iff.mpr M.n0)⟩
  obtain ⟨g0, _, g2⟩ := M.node n (List.mem_of_getElem? hn)
  obtain ⟨a, ha⟩ : ∃ a, n[0]? = some a := ⟨_, List.getElem?_eq_getElem (List.length_pos_iff.mpr g0)⟩
  exact ⟨n, a, hn, ha, (g2 a (List.mem_of_getElem? ha)).1⟩
end Dk
namespace Dk
open PySem PySem.Spec PyProof.Rows L2
theorem MemJ.at {m : Memo} (M : MemJ m) {i : Int} (h0 : 0 ≤ i) (h1 : i < m.length) : ∃ n, m[i.toNat]? = some n ∧ n ≠ [] ∧ n.length ≤ 20 ∧ ∀ a ∈ n, a.1.length = sizeM m ∧ (∀ x ∈ a.1, 0 ≤ x ∧ x ≤ 1000000) ∧ a.2.length ≤ 2 ∧ ∀ x ∈ a.2, x ≤ 30 := by
  obtain ⟨n, hn⟩ : ∃ n, m[i.toNat]? = some n := ⟨_, List.getElem?_eq_getElem (by omega)⟩
  exact ⟨n, hn, M.node n (List.mem_of_getElem? hn)⟩
end Dk
namespace Dk
open PySem PySem.Spec PyProof.Rows L2
variable {S : Type} [StK S]
section
variable {X : Cx} {e a b c d : Expr} {ta : (AW S)} {pos : Pos} {k : Nat}
def dPar4 (i j l m : Nat) (ta : (AW S)) : (DS S) := fun E ρ => ta ρ fun ks ρ1 => gets (tmps ks) fun rs => match rs with
  | [r1, r2, r3, r4] => E.nx { ρ1 with sl := (((ρ1.sl.set i r1.sl).set j r2.sl).set l r3.sl).set m r4.sl }
  | _ => False
end
section
variable {E : (DE S)} {s0 : Sl} {l0 : List Sl} {pn : S} {aa : (AW S)} {i j l n : Nat}
@[simp↓] theorem z_dPar4 : dPar4 i j l n aa E ⟨s0 :: l0, pn⟩ = aa ⟨s0 :: l0, pn⟩ fun ks ρ1 => gets (tmps ks) fun rs => match rs with
  | [r1, r2, r3, r4] => E.nx ⟨(((ρ1.sl.set i r1.sl).set j r2.sl).set l r3.sl).set n r4.sl, ρ1.pn⟩
  | _ => False := rfl
end
end Dk
namespace Dk
open PySem PySem.Spec PyProof.Rows L2
structure Vz (W h : Nat) (d : D) : Prop where
  sh : d.showable = true
  w : wgt d ≤ W
  dp : d.depth ≤ h
theorem Vz.mono {W h W' h' : Nat} {d : D} (c : Vz W h d) (hw : W ≤ W') (hh : h ≤ h') : Vz W' h' d := ⟨c.sh, Nat.le_trans c.w hw, Nat.le_trans c.dp hh⟩
theorem Vw.vz {W h : Nat} {d : D} (c : Vw W h d) : Vz W h d := ⟨c.sh, c.w, c.dp⟩
theorem Vz.repr {W h : Nat} {d : D} (c : Vz W h d) (hw : W ≤ 16777216) (hh : h ≤ 100) : reprOkZ d := ⟨c.sh, Nat.le_trans (shown_le d) (Nat.le_trans c.w (by rw [sizeLine_eq]; exact hw)), Nat.le_trans c.dp hh⟩
def mkK (t : Bool) (xs : List D) : D := if t then .tuple xs else .list xs
theorem showK {t : Bool} {xs : List D} : (mkK t xs).showable = PyData.showableAll xs := by cases t <;> rfl
theorem wgtK {t : Bool} {xs : List D} : wgt (mkK t xs) = wgts xs + 3 := by cases t; exact wgt_list; exact wgt_tuple
theorem depthK {t : Bool} {xs : List D} : (mkK t xs).depth = PyData.depthAll xs + 1 := by cases t; exact depth_list; exact depth_tuple
theorem Vz.all {W h : Nat} {t : Bool} {xs : List D} (hs : ∀ d ∈ xs, d.showable = true) (hw : wgts xs + 3 ≤ W) (hh : ∀ d ∈ xs, d.depth + 1 ≤ h) (h1 : 1 ≤ h) : Vz W h (mkK t xs) := ⟨by rw [showK]; exact showA_iff.mpr hs, by rw [wgtK]; exact hw, by
  rw [depthK]
  have : PyData.depthAll xs ≤ h - 1 := depthAll_le.mpr fun d hd => by have := hh d hd; omega
  omega⟩
def vz (W h : Nat) (d : D) : Bool := d.showable && decide (wgt d ≤ W) && decide (d.depth ≤ h)
theorem Vz.of {W h : Nat} {d : D} (c : vz W h d = true) : Vz W h d := by
  simp only [vz, Bool.and_eq_true, decide_eq_true_eq] at c
  exact ⟨c.1.1, c.1.2, c.2⟩
mutual
def bz : D → Bool
  | .none => true
  | .bool _ => false
  | .int i => decide (i.natAbs < 10 ^ 400)
  | .str _ => true
  | .list ds => decide (ds.length ≤ 3000) && bzA ds
  | .tuple ds => decide (ds.length ≤ 3000) && bzA ds
  | .dict _ => false
def bzA : List D → Bool
  | [] => true
  | d :: ds => bz d && bzA ds
end
theorem bz_k {t : Bool} {ds : List D} : bz (mkK t ds) = true ↔ ds.length ≤ 3000 ∧ bzA ds = true := by
  cases t <;> simp only [mkK, bz, Bool.and_eq_true, decide_eq_true_eq, Bool.false_eq_true, if_true, if_false]
theorem bzA_iff : ∀ {ds : List D}, bzA ds = true ↔ ∀ d ∈ ds, bz d = true
  | [] => by simp [bzA]
  | d :: ds => by
    rw [bzA, Bool.and_eq_true, bzA_iff]
    simp
theorem show_big {i : Int} (h : i.natAbs < 10 ^ 404) : (PyData.int i).showable = true := by
  show decide (i.natAbs.log2 < 1920) = true
  rw [decide_eq_true_eq]
  by_cases h0 : i.natAbs = 0
  · rw [h0]; decide
  · have : i.natAbs.log2 < 1400 := (Nat.log2_lt h0).mpr (Nat.lt_of_lt_of_le h (by decide +kernel))
    omega
mutual
theorem bz_show : ∀ {d : D}, bz d = true → d.showable = true
  | .none, _ => rfl
  | .bool b, _ => rfl
  | .int i, h => by
    rw [bz, decide_eq_true_eq] at h
    exact show_big (Nat.lt_of_lt_of_le h (by decide +kernel))
  | .str x, _ => rfl
  | .list ds, h => by
    rw [bz, Bool.and_eq_true] at h
    exact bzA_show h.2
  | .tuple ds, h => by
    rw [bz, Bool.and_eq_true] at h
    exact bzA_show h.2
  | .dict kvs, h => by rw [bz] at h; cases h
theorem bzA_show : ∀ {ds : List D}, bzA ds = true → PyData.showableAll ds = true
  | [], _ => rfl
  | d :: ds, h => by
    rw [bzA, Bool.and_eq_true] at h
    rw [PyData.showableAll, bz_show h.1, bzA_show h.2]
    rfl
end
@[simp] theorem eqOk_bool {a b : Bool} : eqOk (.bool a) (.bool b) = true := by cases a <;> cases b <;> rfl
@[simp] theorem eqv_bool {a b : Bool} : PyData.eqv (.bool a) (.bool b) = (a == b) := by cases a <;> cases b <;> rfl
end Dk
namespace Dk
open PySem PySem.Spec PyProof.Rows L2
structure Bm (c h : Nat) (d : D) : Prop where
  p : bz d = true
  w : wgt d ≤ c
  dp : d.depth ≤ h
theorem Bm.mono {c h c' h' : Nat} {d : D} (s : Bm c h d) (hc : c ≤ c') (hh : h ≤ h') : Bm c' h' d := ⟨s.p, Nat.le_trans s.w hc, Nat.le_trans s.dp hh⟩
theorem Bm.vz {c h : Nat} {d : D} (s : Bm c h d) : Vz c h d := ⟨bz_show s.p, s.w, s.dp⟩
theorem Bm.tup {c h L : Nat} {xs : List D} (hx : ∀ d ∈ xs, Bm c h d) (hl : xs.length ≤ L) (hL : L ≤ 3000) : Bm (L * (c + 2) + 3) (h + 1) (.tuple xs) := by
  refine ⟨(bz_k (t := true)).mpr ⟨by omega, bzA_iff.mpr fun d hd => (hx d hd).p⟩, ?_, ?_⟩
  · rw [wgt_tuple]
    have := wgts_le fun d hd => (hx d hd).w
    have := Nat.mul_le_mul_right (c + 2) hl
    omega
  · rw [depth_tuple]
    have := depthAll_le.mpr fun d hd => (hx d hd).dp
    omega
theorem Bm.int {i : Int} (h : i.natAbs < 1000000000000) : Bm 13 0 (.int i) := ⟨by rw [bz, decide_eq_true_eq]; exact Nat.lt_of_lt_of_le h (by decide +kernel), wgt_small h, Nat.le_refl _⟩
theorem Bm.ints {is : List Int} {L : Nat} (h : ∀ i ∈ is, i.natAbs < 1000000000000) (hl : is.length ≤ L) (hL : L ≤ 3000) : Bm (L * 15 + 3) 1 (.tuple (is.map .int)) := Bm.tup (c := 13) (h := 0) (fun d hd => by
  obtain ⟨i, hi, rfl⟩ := List.mem_map.mp hd
  exact Bm.int (h i hi)) (by rw [List.length_map]; exact hl) hL
theorem Bm.needs {ns : List Nat} (h : ∀ x ∈ ns, x < 1000) (hl : ns.length ≤ 2) : Bm 33 1 (.tuple (needsL ns)) := Bm.tup (c := 13) (h := 0) (L := 2) (fun d hd => by
  unfold needsL at hd
  obtain ⟨i, hi, rfl⟩ := List.mem_map.mp hd
  exact Bm.int (by have := h i hi; omega)) (by unfold needsL; rw [List.length_map]; exact hl) (by decide)
theorem Bm.alt {a : Alt} (h1 : a.1.length ≤ 4) (h2 : ∀ x ∈ a.1, 0 ≤ x ∧ x ≤ 1000000) (h3 : a.2.length ≤ 2) (h4 : ∀ x ∈ a.2, x < 1000) : Bm 133 2 (altD a) := Bm.tup (c := 63) (h := 1) (L := 2) (fun d hd => by
  simp only [List.mem_cons, List.not_mem_nil, or_false] at hd
  rcases hd with rfl | rfl
  · exact Bm.ints (L := 4) (fun i hi => by have := h2 i hi; omega) h1 (by decide)
  · exact (Bm.needs h4 h3).mono (by decide) (by decide)) (by simp) (by decide)
theorem Bm.node {n : List Alt} (hl : n.length ≤ 21) (h : ∀ a ∈ n, Bm 133 2 (altD a)) : Bm 2838 3 (nodeD n) := Bm.tup (c := 133) (h := 2) (L := 21) (fun d hd => by
  obtain ⟨a, ha, rfl⟩ := List.mem_map.mp hd
  exact h a ha) (by rw [List.length_map]; exact hl) (by decide)
theorem Bm.memo {m : Memo} (hl : m.length ≤ 24) (h : ∀ n ∈ m, Bm 2838 3 (nodeD n)) : Bm 68163 4 (memoD m) := Bm.tup (c := 2838) (h := 3) (L := 24) (fun d hd => by
  obtain ⟨a, ha, rfl⟩ := List.mem_map.mp hd
  exact h a ha) (by rw [List.length_map]; exact hl) (by decide)
theorem MemJ.altB {m : Memo} (M : MemJ m) {n : List Alt} (hn : n ∈ m) {a : Alt} (ha : a ∈ n) : Bm 133 2 (altD a) := by
  obtain ⟨_, _, g⟩ := M.node n hn
  obtain ⟨g1, g2, g3, g4⟩ := g a ha
  have := M.size
  exact Bm.alt (by omega) g2 g3 (fun x hx => by have := g4 x hx; omega)
theorem MemJ.bm {m : Memo} (M : MemJ m) : Bm 68163 4 (memoD m) := Bm.memo M.n1 fun n hn => Bm.node (by have := (M.node n hn).2.1; omega) fun a ha => M.altB hn ha
def AltB (size i : Nat) (a : Alt) : Prop := a.1.length = size ∧ (∀ x ∈ a.1, 0 ≤ x ∧ x ≤ 29) ∧ a.2.length ≤ 2 ∧ ∀ x ∈ a.2, x < i
def RenN (size i : Nat) (n n' : List Alt) : Prop := n.length ≤ n'.length ∧ n'.length ≤ n.length + 1 ∧ (∀ (j : Nat) a a', n[j]? = some a → n'[j]? = some a' → a'.2 = a.2 ∧ (a'.1 = a.1 ∨ (a'.1.length = size ∧ ∀ x ∈ a'.1, 0 ≤ x ∧ x ≤ 29))) ∧ ∀ (j : Nat) a', n.length ≤ j → n'[j]? = some a' → AltB size i a'
inductive ChgT (m : Memo) : D → Prop
  | amt (i j r : Nat) (x : Int) (n : List Alt) : m[i]? = some n → j < n.length → r < sizeM m → 0 ≤ x → x ≤ 1000000 → ChgT m (.tuple [.str ("amount" : Str), .int i, .int j, .int r, .int x])
  | add (i : Nat) (a : Alt) : i < m.length → AltB (sizeM m) i a → ChgT m (.tuple [.str ("add" : Str), .int i, altD a])
  | memo (m' : Memo) : m'.length = m.length → (∀ (i : Nat) n n', m[i]? = some n → m'[i]? = some n' → RenN (sizeM m) i n n') → ChgT m (.tuple [.str ("memo" : Str), memoD m'])
theorem Bm.str {x : Str} {c : Nat} (h : (PyData.str x).shown.length ≤ c) : Bm c 0 (.str x) := ⟨rfl, by rw [wgt]; exact h, Nat.le_refl _⟩
theorem RenN.bm {m : Memo} (M : MemJ m) {i : Nat} {n n' : List Alt} (hn : m[i]? = some n) (R : RenN (sizeM m) i n n') : Bm 2838 3 (nodeD n') := by
  obtain ⟨r1, r2, r3, r4⟩ := R
  have hmem := List.mem_of_getElem? hn
  obtain ⟨g0, g1, g2⟩ := M.node n hmem
  have hil := (List.getElem?_eq_some_iff.mp hn).1
  have := M.n1
  have := M.size
  refine Bm.node (by omega) fun a' ha' => ?_
  obtain ⟨j, hj⟩ := List.mem_iff_getElem?.mp ha'
  by_cases hjl : j < n.length
  · obtain ⟨a, ha⟩ : ∃ a, n[j]? = some a := ⟨_, List.getElem?_eq_getElem hjl⟩
    obtain ⟨e2, e1⟩ := r3 j a a' ha hj
    obtain ⟨k1, k2, k3, k4⟩ := g2 a (List.mem_of_getElem? ha)
    rcases e1 with e1 | ⟨e1, e3⟩
    · exact Bm.alt (by rw [e1]; omega) (by rw [e1]; exact k2) (by rw [e2]; exact k3) (by rw [e2]; exact fun x hx => by have := k4 x hx; omega)
    · exact Bm.alt (by omega) (fun x hx => by have := e3 x hx; omega) (by rw [e2]; exact k3) (by rw [e2]; exact fun x hx => by have := k4 x hx; omega)
  · obtain ⟨k1, k2, k3, k4⟩ := r4 j a' (by omega) hj
    exact Bm.alt (by omega) (fun x hx => by have := k2 x hx; omega) k3 (fun x hx => by have := k4 x hx; omega)
theorem ChgT.bm {m : Memo} (M : MemJ m) {d : D} (h : ChgT m d) : Bm 136333 5 d ∧ ∃ x r, d = .tuple (.str x :: r) := by
  have hm := M.n1
  have hs := M.size
  cases h with
  | amt i j r x n hn hj hr x0 x1 =>
    have hil := (List.getElem?_eq_some_iff.mp hn).1
    have := (M.node n (List.mem_of_getElem? hn)).2.1
    refine ⟨(Bm.tup (c := 13) (h := 0) (L := 5) (fun d hd => ?_) (by simp) (by decide)).mono (by decide) (by decide), _, _, rfl⟩
    simp only [List.mem_cons, List.not_mem_nil, or_false] at hd
    rcases hd with rfl | rfl | rfl | rfl | rfl
    · exact Bm.str (by decide +kernel)
    all_goals exact Bm.int (by omega)
  | add i a hi ha =>
    obtain ⟨k1, k2, k3, k4⟩ := ha
    refine ⟨(Bm.tup (c := 133) (h := 2) (L := 3) (fun d hd => ?_) (by simp) (by decide)).mono (by decide) (by decide), _, _, rfl⟩
    simp only [List.mem_cons, List.not_mem_nil, or_false] at hd
    rcases hd with rfl | rfl | rfl
    · exact Bm.mono (Bm.str (c := 13) (by decide +kernel)) (by decide) (by decide)
    · exact (Bm.int (by omega)).mono (by decide) (by decide)
    · exact Bm.alt (by omega) (fun x hx => by have := k2 x hx; omega) k3 (fun x hx => by have := k4 x hx; omega)
  | memo m' hl hr =>
    refine ⟨(Bm.tup (c := 68163) (h := 4) (L := 2) (fun d hd => ?_) (by simp) (by decide)).mono (by decide) (by decide), _, _, rfl⟩
    simp only [List.mem_cons, List.not_mem_nil, or_false] at hd
    rcases hd with rfl | rfl
    · exact Bm.mono (Bm.str (c := 13) (by decide +kernel)) (by decide) (by decide)
    · refine Bm.memo (by omega) fun n' hn' => ?_
      obtain ⟨i, hi⟩ := List.mem_iff_getElem?.mp hn'
      obtain ⟨n, hn⟩ : ∃ n, m[i]? = some n := ⟨_, List.getElem?_eq_getElem (by have := (List.getElem?_eq_some_iff.mp hi).1; omega)⟩
      exact (hr i n n' hn hi).bm M hn
section
variable {t u v r : DS} {E : DE} {ρ : En}
end
end Dk
namespace Dk
open PySem PySem.Spec PyProof.Rows L2
variable {S : Type} [StK S]
def leD0 (a b : D) : Bool := !PySem.W.dataLt b a
def sortD (ds : List D) : List D := ds.mergeSort leD0
def sortOk (ds : List D) : Prop := PySem.W.AllAlike ds ∧ PySem.W.Sortable ds ∧ ∀ d ∈ ds, d.depth ≤ 64
open Classical in
noncomputable def sortedD : List D → Option Rs
  | [.list ds] => if sortOk ds then some (.own (sortD ds)) else none
  | _ => none
open Classical in
@[simp↓] theorem g_sortedL {xs : List D} {k : Rs → Prop} : gets (sortedD [.list xs]) k = (sortOk xs ∧ k (.own (sortD xs))) := by unfold sortedD; exact g_ite
section
variable {X : Cx} {e a b c : Expr} {te : (DW S)} {ta : (AW S)} {pos p p2 p1 : Pos} {k : Nat} {t u : (OW S)}
def dAugC (i : Nat) (C : Int → Int → Prop) (f : Int → Int → Int) (t : (DW S)) : (DS S) := fun E ρ => gets (((ρ.sl[i]?).bind Sl.rd).bind D.int?) fun a => t ρ fun r ρ1 => gets (D.int? r.d) fun b => C a b ∧ E.nx { ρ1 with sl := ρ1.sl.set i (.val (.int (f a b))) }
def insD (xs : List D) (i : Int) (d : D) : List D := xs.take i.toNat ++ d :: xs.drop i.toNat
def insA : List D → Option (Int × D)
  | [.int z, d] => some (z, d)
  | _ => none
def dInsert (i : Nat) (ta : (AW S)) : (DW S) := fun ρ P => (own? ρ.sl i).isSome = true ∧ ta ρ fun ks ρ1 => gets (vals ks) fun ds => gets (insA ds) fun p => gets (own? ρ1.sl i) fun xs => (xs.length < sizeLine ∧ 0 ≤ p.1 ∧ p.1 ≤ 1000000000) ∧ P (.val .none) { ρ1 with sl := ρ1.sl.set i (.own (insD xs p.1 p.2)) }
end
section
variable {E : (DE S)} {s0 : Sl} {l0 : List Sl} {pn : S} {te : (DW S)} {i : Nat} {C : Int → Int → Prop} {f : Int → Int → Int}
@[simp↓] theorem z_dAugC : dAugC i C f te E ⟨s0 :: l0, pn⟩ = gets ((rdS (s0 :: l0) i).bind D.int?) fun a => te ⟨s0 :: l0, pn⟩ fun r ρ1 => gets (D.int? r.d) fun b => C a b ∧ E.nx ⟨ρ1.sl.set i (.val (.int (f a b))), ρ1.pn⟩ := by rw [← rdS_eq]; rfl
@[simp↓] theorem z_dInsert {aa : (AW S)} {P : Rs → (En S) → Prop} : dInsert i aa ⟨s0 :: l0, pn⟩ P = ((own? (s0 :: l0) i).isSome = true ∧ aa ⟨s0 :: l0, pn⟩ fun ks ρ1 => gets (vals ks) fun ds => gets (insA ds) fun p => gets (own? ρ1.sl i) fun xs => (xs.length < sizeLine ∧ 0 ≤ p.1 ∧ p.1 ≤ 1000000000) ∧ P (.val .none) ⟨ρ1.sl.set i (.own (insD xs p.1 p.2)), ρ1.pn⟩) := rfl
@[simp↓] theorem g_insA {z : Int} {d : D} {k : Int × D → Prop} : gets (insA [.int z, d]) k = k (z, d) := rfl
end
end Dk
namespace Dk
open PySem PySem.Spec PyProof.Rows L2
end Dk
namespace Dk
open PySem PySem.Spec PyProof.Rows L2
end Dk
namespace Dk
open PySem PySem.Spec PyProof.Rows L2
end Dk
namespace Dk
open PySem PySem.Spec PyProof.Rows L2
theorem Fine.again {m : Memo} {size most : Nat} {B : Int} (F : Fine size most B m) {n : List Alt} (hl : m[m.length - 1]? = some n) : Fine size most B (m ++ [n]) := by
  obtain ⟨g0, g1, g2⟩ := F.node _ n hl
  have hlt := (List.getElem?_eq_some_iff.mp hl).1
  have c1 := dp_get (g := cntN) cnt_loc hl fun a ha x hx => (g2 a ha).2.2 x hx
  have c2 := dp_get (g := partsN) parts_loc hl fun a ha x hx => (g2 a ha).2.2 x hx
  exact F.snoc g0 g1 (fun a ha => (g2 a ha).mono (by omega)) (F.cnt _ (List.mem_of_getElem? c1)) (F.prt _ (List.mem_of_getElem? c2))
theorem PlOk.again {m : Memo} {n : List Alt} (hm : Good m) (hl : m[m.length - 1]? = some n) : ∀ {node : Nat} {p : Pl}, PlOk m node p → PlOk (m ++ [n]) node p := by
  intro node p h
  induction h with
  | mk hn ha hlen hps ih =>
    refine .mk (by rw [List.getElem?_append_left (List.getElem?_eq_some_iff.mp hn).1]; exact hn) ha hlen fun j nd q h1 h2 => ih j nd q h1 h2
theorem PlOk.last {m : Memo} {n : List Alt} (hm : Good m) (hl : m[m.length - 1]? = some n) {p : Pl} (h : PlOk m (m.length - 1) p) : PlOk (m ++ [n]) m.length p := by
  cases h with
  | mk hn ha hlen hps =>
    rw [hl] at hn
    cases hn
    refine .mk (by simp) ha hlen fun j nd q h1 h2 => (hps j nd q h1 h2).again hm hl
end Dk
namespace Dk
open PySem PySem.Spec PyProof.Rows L2
structure Ob where
  C : Addr
  N : List Str
  fs : List Sl
structure Gm where
  R : Fg → Hp → HO → Prop
  mono : ∀ {K : Fg} {F G : Hp} {u : HO}, R K F u → Le F G → R K G u
  lst : ∀ {K : Fg} {F : Hp} {xs : List V}, ¬ R K F (.lst xs)
  tup : ∀ {K : Fg} {F : Hp} {xs : List V}, ¬ R K F (.tup xs)
  ins : ∀ {K : Fg} {F : Hp} {C dx : Addr} {fs : List (Str × V)}, ¬ R K F (.ins C dx fs)
  frz : ∀ {K : Fg} {F : Hp} {o : Obj} {u : HO}, ¬ R K F (.frz o u)
inductive Dc where
  | k (kvs : List (Key × D)) | o (g : Gm)
structure Sto where
  pen : Option Pen
  ob : Addr → Option Ob
  ls : Addr → Option (List D)
  dc : Addr → Option Dc
def Sto.putO (s : Sto) (a : Addr) (o : Ob) : Sto := { s with ob := fun b => if b = a then some o else s.ob b }
def Sto.putL (s : Sto) (a : Addr) (xs : List D) : Sto := { s with ls := fun b => if b = a then some xs else s.ls b }
def Sto.putD (s : Sto) (a : Addr) (c : Dc) : Sto := { s with dc := fun b => if b = a then some c else s.dc b }
def Sto.only (p : Option Pen) : Sto := ⟨p, fun _ => none, fun _ => none, fun _ => none⟩
def PvR {κ : Type} (K : Fg) (F : Hp) (kvs : List (κ × D)) (vs : List (κ × V)) : Prop := vs.map (·.1) = kvs.map (·.1) ∧ DRs K F (kvs.map (·.2)) (vs.map (·.2))
theorem PvR.mono {κ : Type} {K : Fg} {F G : Hp} {kvs : List (κ × D)} {vs : List (κ × V)} (h : PvR K F kvs vs) (e : Le F G) : PvR K G kvs vs := ⟨h.1, DRs.mono e _ _ h.2⟩
def DcR (K : Fg) (F : Hp) : Dc → HO → Prop
  | .k kvs, u => ∃ vs, u = .dK vs ∧ PvR K F kvs vs
  | .o g, u => g.R K F u
theorem DcR.mono {K : Fg} {F G : Hp} {c : Dc} {u : HO} (h : DcR K F c u) (e : Le F G) : DcR K G c u := by
  cases c with
  | k kvs => exact h.imp fun vs q => ⟨q.1, q.2.mono e⟩
  | o g => exact g.mono h e
theorem DcR.nl {K : Fg} {F : Hp} {c : Dc} {xs : List V} (h : DcR K F c (.lst xs)) : False := by
  cases c with
  | k kvs => obtain ⟨vs, e, _⟩ := h; cases e
  | o g => exact g.lst h
def FldR (K : Fg) (F : Hp) : Sl → Option V → Prop
  | .un, o => o = none
  | .val d, o => ∃ v, o = some v ∧ DR K F d v
  | .ref a, o => o = some (.ref a)
  | _, _ => False
theorem FldR.mono {K : Fg} {F G : Hp} {s : Sl} {o : Option V} (h : FldR K F s o) (e : Le F G) : FldR K G s o := by
  cases s with
  | un => exact h
  | val d => exact h.imp fun v q => ⟨q.1, q.2.mono e⟩
  | ref a => exact h
  | own xs => exact h
  | bor xs => exact h
  | pen => exact h
  | scr ns => exact h
def isUn : Sl → Bool
  | .un => true
  | _ => false
def cntF (fs : List Sl) : Nat := (fs.filter fun s => !isUn s).length
structure ObR (K : Fg) (F : Hp) (o : Ob) (fvs : List (Str × V)) : Prop where
  len : o.fs.length = o.N.length
  nd : o.N.Nodup
  sz : o.N.length < 900
  cnt : fvs.length ≤ cntF o.fs
  fld : ∀ (i : Nat) (s : Sl) (x : Str), o.fs[i]? = some s → o.N[i]? = some x → FldR K F s (fvs.lookup x)
  out : ∀ x : Str, x ∉ o.N → fvs.lookup x = none
theorem ObR.mono {K : Fg} {F G : Hp} {o : Ob} {fvs : List (Str × V)} (h : ObR K F o fvs) (e : Le F G) : ObR K G o fvs := ⟨h.len, h.nd, h.sz, h.cnt, fun i s x h1 h2 => (h.fld i s x h1 h2).mono e, h.out⟩
structure StoR (K : Fg) (pa : Option Addr) (H F : Hp) (s : Sto) (T : Addr → Prop) : Prop where
  pen : PenR K F H pa s.pen
  ob : ∀ a o, s.ob a = some o → ∃ dx fvs, H a = some (.ins o.C dx fvs) ∧ ObR K F o fvs
  ls : ∀ b xs, s.ls b = some xs → ∃ vs, H b = some (.lst vs) ∧ DRs K F xs vs
  dc : ∀ b c, s.dc b = some c → ∃ u, H b = some u ∧ DcR K F c u
  ap : ∀ b, pa = some b → s.ob b = none ∧ s.ls b = none ∧ s.dc b = none
  t : ∀ b, T b ↔ (pa = some b ∨ s.ob b ≠ none ∨ s.ls b ≠ none ∨ s.dc b ≠ none)
theorem StoR.frame {K : Fg} {pa : Option Addr} {H F H' F' : Hp} {s : Sto} {T : Addr → Prop} (h : StoR K pa H F s T) (hH : ∀ b, T b → H' b = H b) (hF : Le F F') (hf : ∀ b, T b → F' b = none) : StoR K pa H' F' s T :=
  ⟨h.pen.frame (fun b e => hH b ((h.t b).mpr (.inl e))) hF fun b e => hf b ((h.t b).mpr (.inl e)),
   fun a o e => by
    obtain ⟨dx, fvs, h1, h2⟩ := h.ob a o e
    exact ⟨dx, fvs, by rw [hH a ((h.t a).mpr (.inr (.inl (by rw [e]; exact nofun))))]; exact h1, h2.mono hF⟩,
   fun b xs e => by
    obtain ⟨vs, h1, h2⟩ := h.ls b xs e
    exact ⟨vs, by rw [hH b ((h.t b).mpr (.inr (.inr (.inl (by rw [e]; exact nofun)))))]; exact h1, h2.mono hF⟩,
   fun b c e => by
    obtain ⟨u, h1, h2⟩ := h.dc b c e
    exact ⟨u, by rw [hH b ((h.t b).mpr (.inr (.inr (.inr (by rw [e]; exact nofun)))))]; exact h1, h2.mono hF⟩,
   h.ap, h.t⟩
instance stSto : StK Sto where
  look := fun s b => s.ls b
  tag := fun _ => none
  R := fun K pa H F s T => StoR K pa H F s T
  frame := fun h hH hF hf => h.frame hH hF hf
  seen := fun h e => h.ls _ _ e
instance noSto : NoTag Sto := ⟨fun _ => rfl⟩
instance penSto : PenK Sto where
  toStK := stSto
  get := fun s => s.pen
  set := fun p s => { s with pen := p }
  tagS := fun _ _ => rfl
  pen := fun h => ⟨h.pen, fun b e => (h.t b).mpr (.inl e)⟩
  apart := fun {K pa H F s T b xs} h e z => by
    have := (StoR.ap h b z).2.1
    have e : s.ls b = some xs := e
    rw [this] at e
    cases e
  up := fun {K pa H F H' F' s T pn} h hH hF hf hp => by
    have h : StoR K pa H F s T := h
    refine (⟨hp, fun a o e => ?_, fun b xs e => ?_, fun b c e => ?_, h.ap, h.t⟩ : StoR K pa H' F' { s with pen := pn } T)
    · obtain ⟨dx, fvs, h1, h2⟩ := h.ob a o e
      refine ⟨dx, fvs, ?_, h2.mono hF⟩
      rw [hH a ((h.t a).mpr (.inr (.inl (by rw [show s.ob a = some o from e]; exact nofun)))) fun z => by
        have := (h.ap a z).1
        rw [show s.ob a = some o from e] at this
        cases this]
      exact h1
    · obtain ⟨vs, h1, h2⟩ := h.ls b xs e
      refine ⟨vs, ?_, h2.mono hF⟩
      rw [hH b ((h.t b).mpr (.inr (.inr (.inl (by rw [show s.ls b = some xs from e]; exact nofun))))) fun z => by
        have := (h.ap b z).2.1
        rw [show s.ls b = some xs from e] at this
        cases this]
      exact h1
    · obtain ⟨u, h1, h2⟩ := h.dc b c e
      refine ⟨u, ?_, h2.mono hF⟩
      rw [hH b ((h.t b).mpr (.inr (.inr (.inr (by rw [show s.dc b = some c from e]; exact nofun))))) fun z => by
        have := (h.ap b z).2.2
        rw [show s.dc b = some c from e] at this
        cases this]
      exact h1
section
variable {K : Fg} {B : Bs} {pa : Option Addr} {zs : List (Option V)} {H F H' : Hp} {ws : List Sl} {pn pn' : Sto}
theorem Rel.stoR (R : Rel K B pa zs H F ws pn) : ∃ T, StR K B pa zs H F ws pn T ∧ StoR K pa H F pn T := by
  obtain ⟨T, t⟩ := R.st
  exact ⟨T, t, t.r⟩
theorem Rel.reSto (R : Rel K B pa zs H F ws pn) {T T' : Addr → Prop} (t : StR K B pa zs H F ws pn T) (hH : ∀ b u, H b = some u → ¬ T b → H' b = some u) (hF : Le F H') (hr : StoR K pa H' F pn' T')
    (hT : ∀ b, T' b → T b ∨ (F b = none ∧ B.H0 b = none ∧ ∀ (i : Nat) (xs : List D), ws[i]? = some (.own xs) → zs[i]? ≠ some (some (.ref b)))) (hn : ∀ b, T' b → H' b ≠ none) (hp : ∀ b, H b ≠ none → H' b ≠ none) (hz : Szs H') : Rel K B pa zs H' F ws pn' := by
  have hown : ∀ (i : Nat) (xs : List D) (a : Addr), ws[i]? = some (.own xs) → zs[i]? = some (some (.ref a)) → H' a = H a ∧ F a = none ∧ ¬ T a := fun i xs a e1 e2 => by
    obtain ⟨o, g1, b, vs, g2, g3, _, g4, _⟩ := R.sl i _ e1
    rw [e2] at g1
    cases g1
    cases g2
    have hT' := t.ap i xs a e1 e2
    exact ⟨by rw [hH a _ g3 hT', g3], g4, hT'⟩
  refine ⟨R.len, hF, fun b u e n => ?_, R.f0, R.fr, fun i s e => ?_, R.inj, ⟨T', hr, hn, fun b hb => ?_, fun b hb => ?_, fun i xs a e1 e2 hb => ?_⟩, fun b hb => hp b (R.pal b hb), hz, fun r e => nomatch e⟩
  · exact hH b u (R.base b u e n) (Rel.notT t (by rw [e]; exact nofun) n)
  · obtain ⟨o, e1, e2⟩ := R.sl i s e
    refine ⟨o, e1, e2.grow (fun xs a h1 h2 => ?_) (Le.refl _)⟩
    subst h1 h2
    exact ⟨(hown i xs a e e1).1, (hown i xs a e e1).2.1⟩
  · rcases hT b hb with z | z
    · exact t.fn b z
    · exact z.1
  · rcases hT b hb with z | z
    · exact t.bs b z
    · exact .inl z.2.1
  · rcases hT a hb with z | z
    · exact (hown i xs a e1 e2).2.2 z
    · exact z.2.2 i xs e1 e2
end
end Dk
namespace Dk
open PySem PySem.Spec PyProof.Rows L2
def refS (l : List Sl) (i : Nat) : Option Addr := match l[i]? with
  | some (.ref a) => some a
  | _ => none
def fsO (s : Sto) (C : Addr) (N : List Str) (a : Addr) : Option (List Sl) := (s.ob a).bind fun o => if o.C = C ∧ o.N = N then some o.fs else none
theorem fsO_of {s : Sto} {C : Addr} {N : List Str} {a : Addr} {fs : List Sl} (h : s.ob a = some ⟨C, N, fs⟩) : fsO s C N a = some fs := by
  unfold fsO
  rw [h, Option.bind_some, if_pos ⟨rfl, rfl⟩]
def oAttr (i : Nat) (C : Addr) (N : List Str) (j : Nat) : OW Sto := fun ρ P => gets (refS ρ.sl i) fun a => gets (fsO ρ.pn C N a) fun fs => match fs[j]? with
  | some (.val d) => P (.tmp (.val d)) ρ
  | some (.ref b) => P (.fb b) ρ
  | _ => False
def dAttr (i : Nat) (C : Addr) (N : List Str) (j : Nat) : DW Sto := fun ρ P => gets (refS ρ.sl i) fun a => gets (fsO ρ.pn C N a) fun fs => match fs[j]? with
  | some (.val d) => P (.val d) ρ
  | _ => False
section
variable {K : Fg} {B : Bs} {pa : Option Addr} {σ : L2.St} {τ : List (Option V)} {H F : Hp} {ρ : En Sto} {θ : List Sl}
end
section
variable {X : Cx} {pos p1 p2 p3 : Pos} {C : Addr} {N : List Str} {x y : Str} {k : Nat} {te : DW Sto} {tb : OW Sto} {e b : Expr}
def dSetF (i : Nat) (C : Addr) (N : List Str) (j : Nat) (te : DW Sto) : DS Sto := fun E ρ => te ρ fun r ρ1 => gets (refS ρ1.sl i) fun a => gets (fsO ρ1.pn C N a) fun fs => match r with
  | .val d => E.nx ⟨ρ1.sl, ρ1.pn.putO a ⟨C, N, fs.set j (.val d)⟩⟩
  | .own xs => ∀ b, b ≠ a → ρ1.pn.ls b = none → ρ1.pn.ob b = none → ρ1.pn.dc b = none → E.nx ⟨ρ1.sl, (ρ1.pn.putL b xs).putO a ⟨C, N, fs.set j (.ref b)⟩⟩
end
end Dk
namespace Dk
open PySem PySem.Spec PyProof.Rows L2
def recvA (ρ : List Sl) : Tk → Option Addr
  | .fb a => some a
  | .slot i => refS ρ i
  | _ => none
def dMeth (to : OW Sto) (C : Addr) (N : List Str) (n : Nat) (dsp : DSp Sto) (ta : AW Sto) : DW Sto := fun ρ P => to ρ fun k ρ0 => gets (recvA ρ0.sl k) fun a => (fsO ρ0.pn C N a).isSome = true ∧ ta ρ0 fun ks ρ1 => gets (toArgs ρ1 ks) fun as => as.length + 1 = n ∧ dsp (.ref a :: as) ρ1.pn fun d pn' => P (.val d) ⟨ρ1.sl, pn'⟩
section
variable {K : Fg} {B : Bs} {pa : Option Addr} {σ : L2.St} {τ : List (Option V)} {H F : Hp} {ρ : En Sto} {θ : List Sl}
end
section
variable {X : Cx} {CX : CXT} {k : Nat} {f C : Addr} {fd : FuncData} {ps : List Str} {sp : Sp} {x m : Str} {p pos apos : Pos} {e o : Expr} {es : List Expr} {ta : TE} {t : TA} {E : XK}
end
end Dk
namespace Dk
open PySem PySem.Spec PyProof.Rows L2
def oMake (C : Addr) (N : List Str) (n : Nat) (dsp : DSp Sto) (ta : AW Sto) : OW Sto := fun ρ P => ta ρ fun ks ρ1 => gets (toArgs ρ1 ks) fun as => as.length + 1 = n ∧
  ∀ a, ρ1.pn.ob a = none → ρ1.pn.ls a = none → ρ1.pn.dc a = none → dsp (.ref a :: as) (ρ1.pn.putO a ⟨C, N, List.replicate N.length .un⟩) fun d pn' => d = .none ∧ P (.fb a) ⟨ρ1.sl, pn'⟩
section
variable {K : Fg} {B : Bs} {pa : Option Addr} {zs : List (Option V)} {H F : Hp} {ws : List Sl} {pn : Sto}
theorem Rel.putL (R : Rel K B pa zs H F ws pn) {b : Addr} {xs ys : List D} {vs : List V} (hb : pn.ls b = some xs) (h : DRs K F ys vs) (hz : vs.length ≤ sizeLine) : Rel K B pa zs (upd H b (.lst vs)) F ws (pn.putL b ys) := by
  obtain ⟨T, t, r⟩ := R.stoR
  have hTb : T b := (r.t b).mpr (.inr (.inr (.inl (by rw [hb]; exact nofun))))
  have hpb : pa ≠ some b := fun z => by
    have := (r.ap b z).2.1
    rw [hb] at this
    cases this
  obtain ⟨vs0, g1, _⟩ := r.ls b xs hb
  have hr : StoR K pa (upd H b (.lst vs)) F (pn.putL b ys) T := by
    refine ⟨r.pen.frame (fun c e => upd_ne fun z => hpb (by rw [← z]; exact e)) (Le.refl _) (fun c e => t.fn c ((r.t c).mpr (.inl e))), fun a o e => ?_, fun c zs e => ?_, fun c q e => ?_, fun c z => ⟨(r.ap c z).1, ?_, (r.ap c z).2.2⟩, fun c => ?_⟩
    · obtain ⟨dx, fvs, o1, o2⟩ := r.ob a o e
      exact ⟨dx, fvs, by rw [upd_ne fun z => by rw [z, g1] at o1; cases o1]; exact o1, o2⟩
    · have e : (if c = b then some ys else pn.ls c) = some zs := e
      by_cases z : c = b
      · rw [if_pos z] at e
        cases e
        subst z
        exact ⟨vs, upd_same, h⟩
      · rw [if_neg z] at e
        rw [upd_ne z]
        exact r.ls c zs e
    · obtain ⟨u, h1, h2⟩ := r.dc c q e
      exact ⟨u, by rw [upd_ne fun z => by rw [z, g1] at h1; cases h1; exact h2.nl]; exact h1, h2⟩
    · show (if c = b then some ys else pn.ls c) = none
      rw [if_neg fun y => hpb (by rw [← y]; exact z)]
      exact (r.ap c z).2.1
    · rw [r.t c]
      show _ ↔ (pa = some c ∨ pn.ob c ≠ none ∨ (if c = b then some ys else pn.ls c) ≠ none ∨ pn.dc c ≠ none)
      by_cases z : c = b
      · rw [if_pos z]
        exact ⟨fun _ => .inr (.inr (.inl nofun)), fun _ => .inr (.inr (.inl (by rw [z, hb]; exact nofun)))⟩
      · rw [if_neg z]
  have hp : ∀ c, H c ≠ none → upd H b (.lst vs) c ≠ none := fun c h => by
    by_cases z : c = b
    · rw [z, upd_same]; exact nofun
    · rw [upd_ne z]; exact h
  exact R.reSto t (fun c u e n => by rw [upd_ne fun z => n (by rw [z]; exact hTb)]; exact e) (fun c u e => by rw [upd_ne fun z => by rw [z, t.fn b hTb] at e; cases e]; exact R.fh _ _ e) hr (fun c hc => .inl hc) (fun c hc => hp c (t.hn c hc)) hp (R.sz.upL hz)
end
section
variable {X : Cx} {k : Nat} {f C : Addr} {N : List Str} {fd : FuncData} {ps : List Str} {dsp : DSp Sto} {x m : Str} {p pos apos : Pos} {e o : Expr} {es : List Expr} {to : OW Sto} {ta : AW Sto}
end
end Dk
namespace Dk
open PySem PySem.Spec PyProof.Rows L2
def fldRef (ρ : En Sto) (i : Nat) (C : Addr) (N : List Str) (j : Nat) : Option Addr := (refS ρ.sl i).bind fun a => (fsO ρ.pn C N a).bind fun fs => match fs[j]? with
  | some (.ref b) => some b
  | _ => none
section
variable {K : Fg} {B : Bs} {pa : Option Addr} {σ : L2.St} {τ : List (Option V)} {H F : Hp} {ρ : En Sto} {θ : List Sl}
end
section
variable {X : Cx} {pos p1 p2 p3 apos : Pos} {C : Addr} {N : List Str} {x y : Str} {k : Nat} {te : DW Sto} {u : OW Sto} {e b a : Expr}
def dSetFIx (i : Nat) (C : Addr) (N : List Str) (j : Nat) (ti : OW Sto) (te : DW Sto) : DS Sto := fun E ρ => te ρ fun r ρ1 => gets (fldRef ρ1 i C N j) fun bb => ti ρ1 fun k ρ2 => gets ((k.rd ρ2).bind D.int?) fun z => gets (ρ2.pn.ls bb) fun xs => gets (ixN xs.length z) fun jj => E.nx ⟨ρ2.sl, ρ2.pn.putL bb (xs.set jj r.d)⟩
def dFAppend (i : Nat) (C : Addr) (N : List Str) (j : Nat) (t : OW Sto) : DW Sto := fun ρ P => gets (fldRef ρ i C N j) fun bb => (ρ.pn.ls bb).isSome = true ∧ t ρ fun k ρ1 => gets k.valD fun d => gets (ρ1.pn.ls bb) fun xs => xs.length < sizeLine ∧ P (.val .none) ⟨ρ1.sl, ρ1.pn.putL bb (xs ++ [d])⟩
end
section
variable {S : Type} [StK S] {X : Cx} {pos p1 p2 : Pos} {x : Str} {k : Nat} {te : DW S} {u : OW S} {e b : Expr} {op : Operator} {f : Int → Int → Int}
def dAugIx (i : Nat) (f : Int → Int → Int) (ti : OW S) (te : DW S) : DS S := fun E ρ => (own? ρ.sl i).isSome = true ∧ ti ρ fun k ρ1 => gets ((k.rd ρ1).bind D.int?) fun z => gets (own? ρ1.sl i) fun xs => 0 ≤ z ∧ gets ((xs[z.toNat]?).bind D.int?) fun old => te ρ1 fun r ρ2 => gets (D.int? r.d) fun m => gets (own? ρ2.sl i) fun ys => z < ys.length ∧ E.nx { ρ2 with sl := ρ2.sl.set i (.own (ys.set z.toNat (.int (f old m)))) }
end
end Dk
namespace Dk
open PySem PySem.Spec PyProof.Rows L2
open Classical in
noncomputable def minA : List D → Option Rs
  | [.list (x :: xs)] => if PySem.W.AlikeAll (x :: xs) ∧ PyData.depthAll (x :: xs) ≤ 60 then some (.val (PySem.W.minD x xs)) else none
  | _ => none
open Classical in
@[simp↓] theorem g_minA {x : D} {xs : List D} {k : Rs → Prop} : gets (minA [.list (x :: xs)]) k = ((PySem.W.AlikeAll (x :: xs) ∧ PyData.depthAll (x :: xs) ≤ 60) ∧ k (.val (PySem.W.minD x xs))) := by unfold minA; exact g_ite
structure DfnM (K : Fg) (x q : Str) (st : Stmt) (f : Addr) (fd : FuncData) : Prop where
  F : FunD K x q (defArgs st) (defBody st) (defScope st) [] [] f fd
section
variable {E : DE Sto} {s0 : Sl} {l0 : List Sl} {pn : Sto} {te : DW Sto} {ta to : OW Sto} {aa : AW Sto} {i j n : Nat} {C : Addr} {N : List Str} {P : Rs → En Sto → Prop} {Po : Tk → En Sto → Prop} {dsp : DSp Sto} {dp : DSp} {a b : Addr} {xs : List D} {o : Ob} {fs : List Sl}
@[simp↓] theorem z_oAttr : oAttr i C N j ⟨s0 :: l0, pn⟩ Po = gets (refS (s0 :: l0) i) fun a => gets (fsO pn C N a) fun fs => match fs[j]? with
  | some (.val d) => Po (.tmp (.val d)) ⟨s0 :: l0, pn⟩
  | some (.ref b) => Po (.fb b) ⟨s0 :: l0, pn⟩
  | _ => False := rfl
@[simp↓] theorem z_dAttr : dAttr i C N j ⟨s0 :: l0, pn⟩ P = gets (refS (s0 :: l0) i) fun a => gets (fsO pn C N a) fun fs => match fs[j]? with
  | some (.val d) => P (.val d) ⟨s0 :: l0, pn⟩
  | _ => False := rfl
@[simp↓] theorem z_dSetF : dSetF i C N j te E ⟨s0 :: l0, pn⟩ = te ⟨s0 :: l0, pn⟩ fun r ρ1 => gets (refS ρ1.sl i) fun a => gets (fsO ρ1.pn C N a) fun fs => match r with
  | .val d => E.nx ⟨ρ1.sl, ρ1.pn.putO a ⟨C, N, fs.set j (.val d)⟩⟩
  | .own xs => ∀ b, b ≠ a → ρ1.pn.ls b = none → ρ1.pn.ob b = none → ρ1.pn.dc b = none → E.nx ⟨ρ1.sl, (ρ1.pn.putL b xs).putO a ⟨C, N, fs.set j (.ref b)⟩⟩ := rfl
@[simp↓] theorem z_dSetFIx : dSetFIx i C N j ta te E ⟨s0 :: l0, pn⟩ = te ⟨s0 :: l0, pn⟩ fun r ρ1 => gets (fldRef ρ1 i C N j) fun bb => ta ρ1 fun k ρ2 => gets ((k.rd ρ2).bind D.int?) fun z => gets (ρ2.pn.ls bb) fun xs => gets (ixN xs.length z) fun jj => E.nx ⟨ρ2.sl, ρ2.pn.putL bb (xs.set jj r.d)⟩ := rfl
@[simp↓] theorem z_dFAppend : dFAppend i C N j ta ⟨s0 :: l0, pn⟩ P = gets (fldRef ⟨s0 :: l0, pn⟩ i C N j) fun bb => (pn.ls bb).isSome = true ∧ ta ⟨s0 :: l0, pn⟩ fun k ρ1 => gets k.valD fun d => gets (ρ1.pn.ls bb) fun xs => xs.length < sizeLine ∧ P (.val .none) ⟨ρ1.sl, ρ1.pn.putL bb (xs ++ [d])⟩ := rfl
@[simp↓] theorem z_dMeth : dMeth to C N n dsp aa ⟨s0 :: l0, pn⟩ P = to ⟨s0 :: l0, pn⟩ fun k ρ0 => gets (recvA ρ0.sl k) fun a => (fsO ρ0.pn C N a).isSome = true ∧ aa ρ0 fun ks ρ1 => gets (toArgs ρ1 ks) fun as => as.length + 1 = n ∧ dsp (.ref a :: as) ρ1.pn fun d pn' => P (.val d) ⟨ρ1.sl, pn'⟩ := rfl
@[simp↓] theorem z_oMake : oMake C N n dsp aa ⟨s0 :: l0, pn⟩ Po = aa ⟨s0 :: l0, pn⟩ fun ks ρ1 => gets (toArgs ρ1 ks) fun as => as.length + 1 = n ∧
  ∀ a, ρ1.pn.ob a = none → ρ1.pn.ls a = none → ρ1.pn.dc a = none → dsp (.ref a :: as) (ρ1.pn.putO a ⟨C, N, List.replicate N.length .un⟩) fun d pn' => d = .none ∧ Po (.fb a) ⟨ρ1.sl, pn'⟩ := rfl
@[simp↓] theorem z_dCallP : dCallP n dp aa ⟨s0 :: l0, pn⟩ P = aa ⟨s0 :: l0, pn⟩ fun ks ρ1 => gets (toArgsP ρ1 ks) fun as => as.length = n ∧ dp as ρ1.pn.pen fun d pn' => P (.val d) ⟨ρ1.sl, { ρ1.pn with pen := pn' }⟩ := rfl
@[simp↓] theorem z_dForL {it : IW Sto} {g : GW Sto} {t : DS Sto} : dForL it g t E ⟨s0 :: l0, pn⟩ = it ⟨s0 :: l0, pn⟩ fun c ρ1 => (c.ks.any Tk.slot1? = false) ∧ gets (c.items ρ1) fun items => items.length ≤ sizeLine → forL c items g t E items ρ1 := rfl
@[simp↓] theorem g_refS0 {k : Addr → Prop} : gets (refS (.ref a :: l0) 0) k = k a := rfl
@[simp↓] theorem g_refSS {k : Addr → Prop} : gets (refS (s0 :: l0) (n + 1)) k = gets (refS l0 n) k := rfl
@[simp↓] theorem g_recvF {l : List Sl} {k : Addr → Prop} : gets (recvA l (.fb a)) k = k a := rfl
@[simp↓] theorem g_recvS {l : List Sl} {k : Addr → Prop} : gets (recvA l (.slot i)) k = gets (refS l i) k := rfl
@[simp↓] theorem g_fb {sl : List Sl} {k : D → Prop} : gets (Tk.rd (⟨sl, pn⟩ : En Sto) (.fb b)) k = gets (pn.ls b) fun xs => k (.list xs) := by
  show gets ((pn.ls b).map _) k = _
  exact g_map
@[simp↓] theorem g_taF {sl : List Sl} {k : Arg → Prop} : gets (toArg (⟨sl, pn⟩ : En Sto) (.fb b)) k = k (.ref b) := rfl
@[simp↓] theorem g_asR {k : Arg → Prop} : gets (argS (.ref a :: l0) 0) k = k (.ref a) := rfl
@[simp↓] theorem g_fldRef {sl : List Sl} {k : Addr → Prop} : gets (fldRef ⟨sl, pn⟩ i C N j) k = gets (refS sl i) fun a => gets (fsO pn C N a) fun fs => match fs[j]? with
  | some (.ref b) => k b
  | _ => False := by
  unfold fldRef
  rw [g_bind]
  congr 1
  funext a
  rw [g_bind]
  congr 1
  funext fs
  cases h : fs[j]? with
  | none => rfl
  | some s => cases s <;> rfl
@[simp↓] theorem g_tpP0 {ρ : En Sto} {k : List Arg → Prop} : gets (toArgsP ρ []) k = k [] := rfl
@[simp↓] theorem g_tpP {ρ : En Sto} {kk : Tk} {ks : List Tk} {k : List Arg → Prop} : gets (toArgsP ρ (kk :: ks)) k = gets (toArgP ρ kk) fun d => gets (toArgsP ρ ks) fun ds => k (d :: ds) := by
  show gets ((toArgP ρ kk).bind _) k = _
  rw [g_bind]; congr 1; funext d; exact g_bind
@[simp↓] theorem g_tpT {ρ : En Sto} {d : D} {k : Arg → Prop} : gets (toArgP ρ (.tmp (.val d))) k = k (.val d) := rfl
@[simp↓] theorem g_tpF {sl : List Sl} {k : Arg → Prop} : gets (toArgP (⟨sl, pn⟩ : En Sto) (.fb b)) k = gets (pn.ls b) fun xs => k (.bor xs) := by
  show gets ((pn.ls b).map _) k = _
  exact g_map
theorem putO_fs : fsO (pn.putO a ⟨C, N, fs⟩) C N a = some fs := by
  refine fsO_of ?_
  show (if a = a then _ else _) = _
  rw [if_pos rfl]
@[simp↓] theorem g_putO {k : List Sl → Prop} : gets (fsO (pn.putO a ⟨C, N, fs⟩) C N a) k = k fs := by rw [putO_fs]; rfl
@[simp↓] theorem i_putO : (fsO (pn.putO a ⟨C, N, fs⟩) C N a).isSome = True := by rw [putO_fs]; simp
@[simp↓] theorem g_putOL {a' : Addr} {k : List Sl → Prop} : gets (fsO (pn.putL b xs) C N a') k = gets (fsO pn C N a') k := rfl
@[simp] theorem ls_putO : (pn.putO a o).ls b = pn.ls b := rfl
@[simp] theorem ob_putL {a' : Addr} : (pn.putL b xs).ob a' = pn.ob a' := rfl
@[simp] theorem pen_putO : (pn.putO a o).pen = pn.pen := rfl
@[simp] theorem pen_putL : (pn.putL b xs).pen = pn.pen := rfl
theorem ls_same : (pn.putL b xs).ls b = some xs := if_pos rfl
@[simp↓] theorem g_lsSame {k : List D → Prop} : gets ((pn.putL b xs).ls b) k = k xs := by rw [ls_same]; rfl
end
section
variable {S : Type} [StK S] {E : DE S} {s0 : Sl} {l0 : List Sl} {pn : S} {te : DW S} {ti : OW S} {i : Nat} {f : Int → Int → Int}
@[simp↓] theorem z_dAugIx : dAugIx i f ti te E ⟨s0 :: l0, pn⟩ = ((own? (s0 :: l0) i).isSome = true ∧ ti ⟨s0 :: l0, pn⟩ fun k ρ1 => gets ((k.rd ρ1).bind D.int?) fun z => gets (own? ρ1.sl i) fun xs => 0 ≤ z ∧ gets ((xs[z.toNat]?).bind D.int?) fun old => te ρ1 fun r ρ2 => gets (D.int? r.d) fun m => gets (own? ρ2.sl i) fun ys => z < ys.length ∧ E.nx ⟨ρ2.sl.set i (.own (ys.set z.toNat (.int (f old m)))), ρ2.pn⟩) := rfl
end
end Dk
namespace Dk
open PySem PySem.Spec PyProof.Rows L2
variable {S : Type} [StK S]
def dFrz (t : DW S) : DW S := fun ρ P => t ρ fun r ρ' => P (.val r.d) ρ'
@[simp↓] theorem z_dFrz {t : DW S} {s0 : Sl} {l0 : List Sl} {pn : S} {P : Rs → En S → Prop} : dFrz t ⟨s0 :: l0, pn⟩ P = t ⟨s0 :: l0, pn⟩ fun r ρ' => P (.val r.d) ρ' := rfl
@[simp] theorem v_slR {a : Addr} : Arg.sl (.ref a) = .ref a := rfl
@[simp] theorem v_slot1T {r : Rs} : Tk.slot1? (.tmp r) = false := rfl
@[simp] theorem v_slot1F {a : Addr} : Tk.slot1? (.fb a) = false := rfl
@[simp↓] theorem g_min2 {i j : Int} {k : Rs → Prop} : gets (minD [.int i, .int j]) k = k (.val (.int (min i j))) := rfl
@[simp↓] theorem g_absI {i : Int} {k : Rs → Prop} : gets (absD [.int i]) k = k (.val (.int (if i < 0 then -i else i))) := rfl
def Li (f : Nat → Int) (n : Nat) : List D := (List.range n).map fun j => .int (f j)
@[simp] theorem Li_len {f : Nat → Int} {n : Nat} : (Li f n).length = n := by simp [Li]
end Dk
namespace Dk
open PySem PySem.Spec PyProof.Rows L2
structure Exn where
  C : Addr
  fs : List (Str × D)
def ExD (K : Fg) (F : Hp) (e : Exn) (cls : Value) (d : Option Addr) : Prop := cls = .ref e.C ∧ ∃ dx fvs, d = some dx ∧ F dx = some (.xd fvs) ∧ ∀ x v, e.fs.lookup x = some v → ∃ u, fvs.lookup x = some u ∧ DR K F v u
abbrev DSpX (S : Type := Option Pen) := List Arg → S → (D → S → Prop) → (Exn → S → Prop) → Prop
structure Fol {S : Type} [StK S] (K : Fg) (pa : Option Addr) (H F : Hp) (T : Addr → Prop) (s : S) (H' F' : Hp) (T' : Addr → Prop) : Prop where
  sz : Szs H'
  f0 : Le F F'
  fh : Le F' H'
  fr : ∀ b o, F' b = some o → F b = some o ∨ H b = none ∨ T b
  base : ∀ b o, H b = some o → ¬ T b → H' b = some o
  r : StK.R K pa H' F' s T'
  t : ∀ b, T' b → (T b ∨ H b = none) ∧ H' b ≠ none ∧ F' b = none
  pal : ∀ b, T b → H' b ≠ none
def spOfX {S : Type} [StK S] (K : Fg) (n : Nat) (dsp : DSpX S) : Sp := fun vs H Q E => ∃ F pa T as s P PX, Szs H ∧ Le F H ∧ ArgsR K H F pa T as vs ∧ StK.R K pa H F s T ∧ (∀ b, T b → H b ≠ none ∧ F b = none) ∧ as.length = n ∧ dsp as s P PX ∧
  (∀ d s' v H' F' T', P d s' → Fol K pa H F T s' H' F' T' → DR K F' d v → Q v H') ∧ ∀ e s' cls d H' F' T', PX e s' → Fol K pa H F T s' H' F' T' → ExD K F' e cls d → E cls d H'
abbrev FnX {S : Type} [StK S] (P : Program) (w : World) (K : Fg) (mg : Str → Option Value) (base : Heap) (k : Nat) (f : Addr) (fd : FuncData) (ps : List Str) (dsp : DSpX S) : Prop := FnG P w K mg base (L2.CX P w) k f fd ps (spOfX K ps.length dsp)
section
variable {S : Type} [StK S] {P : Program} {w : World} {K : Fg} {mg : Str → Option Value} {base : Heap} {k : Nat} {f : Addr} {fd : FuncData} {ps : List Str}
theorem FnX.imp {dsp dsp' : DSpX S} (F : FnX P w K mg base k f fd ps dsp) (h : ∀ as s Q QX, dsp' as s Q QX → dsp as s Q QX) : FnX P w K mg base k f fd ps dsp' := by
  have hh : ∀ vs H Q E, spOfX K ps.length dsp' vs H Q E → spOfX K ps.length dsp vs H Q E := fun vs H Q E ⟨F, pa, T, as, s, P, PX, h1, h2, h3, h4, h5, h6, h7, h8⟩ => ⟨F, pa, T, as, s, P, PX, h1, h2, h3, h4, h5, h6, h _ _ _ _ h7, h8⟩
  exact ⟨fun vs H Q E q => F.len _ _ _ _ (hh vs H Q E q), fun A outer s H args us vs Q E hr hg he hb hv hs => F.run A outer s H args us vs Q E hr hg he hb hv (hh vs H Q E hs)⟩
end
section
variable {S : Type} [PenK S] {K : Fg}
end
section
variable {X : Cx} {CX : CXT} {k : Nat} {f : Addr} {fd : FuncData} {ps : List Str} {sp : Sp} {x : Str} {p pos : Pos} {e : Expr} {es : List Expr} {t : TA} {E : L2.St → XK}
end
section
variable {S : Type} [PenK S]
abbrev DWX (S : Type) := (Exn → En S → Prop) → DW S
variable {X : Cx} {W : WX} {k : Nat} {f : Addr} {fd : FuncData} {ps : List Str} {dsp : DSpX} {x : Str} {p pos : Pos} {e : Expr} {es : List Expr} {ta : AW S}
end
end Dk
namespace Dk
open PySem PySem.Spec PyProof.Rows L2
structure Stx where
  s : Sto
  t : Tag
instance stStx : StK Stx where
  look := fun x b => x.s.ls b
  tag := fun x => some x.t
  R := fun K pa H F x T => StoR K pa H F x.s T
  frame := fun h hH hF hf => StoR.frame h hH hF hf
  seen := fun h e => StoR.ls h _ _ e
instance penStx : PenK Stx where
  toStK := stStx
  get := fun x => x.s.pen
  set := fun p x => { x with s := { x.s with pen := p } }
  tagS := fun _ _ => rfl
  pen := fun h => PenK.pen (S := Sto) h
  apart := fun h e => PenK.apart (S := Sto) h e
  up := fun h hH hF hf hp => PenK.up (S := Sto) h hH hF hf hp
section
variable {K : Fg} {B : Bs} {pa : Option Addr} {zs zs0 : List (Option V)} {H F H' F' : Hp} {ws ws0 : List Sl} {x : Stx} {s' : Sto}
theorem Rel.up (R : Rel (S := Stx) K B pa zs0 H F ws0 x) (R' : Rel (S := Sto) K ⟨B.H0, F, B.M⟩ pa zs H' F' ws s') : Rel (S := Stx) K B pa zs H' F' ws ⟨s', x.t⟩ :=
  ⟨R'.len, R'.fh, R'.base, R.f0.trans R'.f0, fun b o e => (R'.fr b o e).elim (R.fr b o) .inr, R'.sl, R'.inj, R'.st.imp fun _ t => ⟨t.r, t.hn, t.fn, t.bs, t.ap⟩, R'.pal, R'.sz, fun r e => by
    cases e
    exact (R.tg _ rfl).grow R'.f0 fun b o e => R'.fr b o e⟩
end
def upD (t : DW Sto) : DW Stx := fun ρ P => t ⟨ρ.sl, ρ.pn.s⟩ fun k ρ' => P k ⟨ρ'.sl, ⟨ρ'.pn, ρ.pn.t⟩⟩
section
variable {X : Cx} {e : Expr} {s : Stmt}
end
def XLk (X : Cx) (t : Tag) (g : Exn → Sto → Prop) : Prop := ∃ E : XK, Takes X (fun c d _ H => E c d H) ∧ ∀ e s' cls d H' F' T', g e s' → Fol (S := Sto) X.K t.pa t.H0 t.F0 t.M s' H' F' T' → ExD X.K F' e cls d → E cls d H'
abbrev cxX (P : Program) (w : World) (K : Fg) (mg : Str → Option Value) (base : Heap) (N : List Str) (qual : Str) (scope : Scope) (f : Addr) (cd : Value) (A : Around) (outer : List Env) (s : Shared) (H : Hp) (E : XK) : Cx := cxOf (L2.CX P w) P w K mg base N qual scope f cd A outer s H E
end Dk
namespace Dk
open PySem PySem.Spec PyProof.Rows L2
section
variable {S : Type} [PenK S]
abbrev DSX (S : Type) := DE S → (Exn → En S → Prop) → En S → Prop
variable {X : Cx} {W : WX} {s : Stmt} {t : DSX S} {e : Expr} {u : DWX S} {pos : Pos} {k : Nat}
theorem XO.tr (O : XO X k) {pn : List (Addr × Obj)} {xe : Value → Shared → Prop} (h : PassesOwn (model X.prog X.w) X.A X.env xe) : XO (X.tr pn xe) k := ⟨O.calm, O.room, O.gd, O.nd, h⟩
end
end Dk
namespace Dk
open PySem PySem.Spec PyProof.Rows L2
structure BaseI (K : Fg) (B : Addr) : Prop where
  ex : ∃ mc, PySem.W.readsIn K B mc = true ∧ PySem.W.findCls K (.ref B) mc "__init__" = some (.val (.builtin "ValueError.__init__"))
  ga : PySem.W.specialIn K (.ref B) "__getattribute__" = some (some (.builtin "type.__getattribute__"))
section
variable {X : Cx} {o e : Expr} {es : List Expr} {ta : TA} {x : Str} {Bc : Addr} {p p' p1 p2 pos : Pos}
theorem pe_ownInit {pl : Sem Bool} (hg : Gl X x) (hm : X.mg x = some (.ref Bc)) (hdb : (x == ("__debug__" : Str)) = false) (b : BaseI X.K Bc) (ha : PA X (e :: es) ta)
    (hc : eval (.Call (.Attribute (.Name x p1) "__init__" p2) (e :: es) [] pos) X.env = (do
      let ov ← eval (.Name x p1) X.env
      standAt p2.atName
      let (f, first) ← holding [ov] (getMethod ov "__init__" pl)
      callWith pos f first (backTo pos (starEach (e :: es) X.env)) (backToKw pos (keywordEach [] X.env))) := by rfl)
    (he : starEach (e :: es) X.env = (false, eval e X.env) :: starEach es X.env := by rfl) (hpl : (backTo pos (starEach es X.env)).any (·.1) = false := by rfl) :
    PE X (.Call (.Attribute (.Name x p1) "__init__" p2) (e :: es) [] pos) (tVeI X.K ta) := by
  refine ⟨fun pins s σ H Q I h => ?_⟩
  obtain ⟨mc, b1, b2⟩ := b.ex
  refine PySem.W.methodCall_KW (ld_glob I hg hm ?_ hdb) hc
  refine PySem.W.method_cls I.kIn b.ga (PySem.W.cls_value I.kIn b1 b2 (by decide +kernel) ?_)
  show wpAny _ _ (callWith pos (Value.builtin "ValueError.__init__") [] (backTo pos (starEach (e :: es) X.env)) []) _ _ _
  refine PyProof.Rows.callWith_method1 (thn (ha.run pos pins _ σ H _ (I.tok _) h) fun us s1 ⟨vs, H1, I1, r1, a, C, ws, ev, hl, T, ea, q⟩ => ?_) he hpl
  subst ev
  cases r1 with
  | @cons _ u0 _ ur ra rw' =>
    obtain rfl : u0 = Value.ref a := ra
    have hlen : ur.length ≤ sizeLine := by
      rw [← Paired.length rw', sizeLine_eq]
      omega
    exact oinit_ok T I1 ea hlen fun s' J => ⟨.non, H1, J, rfl, q⟩
end
structure NodeC (K : Fg) (C : Addr) : Prop where
  T : OexC K C
  no : PySem.W.findIn K (.ref C) "node" = some none
end Dk
namespace Dk
open PySem PySem.Spec PyProof.Rows L2
section
variable {κ : Type} [DecidableEq κ]
def getD' (kvs : List (κ × D)) (k : κ) : Option D := (kvs.find? fun kv => decide (kv.1 = k)).map (·.2)
def putD' (kvs : List (κ × D)) (k : κ) (d : D) : List (κ × D) :=
  if (kvs.any fun kv => decide (kv.1 = k)) = true then kvs.map (fun kv => if kv.1 = k then (kv.1, d) else kv) else kvs ++ [(k, d)]
variable {K : Fg} {F : Hp}
theorem PvR.nil : PvR K F ([] : List (κ × D)) [] := ⟨rfl, DRs.nil⟩
theorem PvR.cons_ {p : κ × D} {kvs : List (κ × D)} {vs : List (κ × V)} (h : PvR K F (p :: kvs) vs) : ∃ v r, vs = (p.1, v) :: r ∧ DR K F p.2 v ∧ PvR K F kvs r := by
  obtain ⟨h1, h2⟩ := h
  cases vs with
  | nil => simp at h1
  | cons q r =>
    obtain ⟨k, v⟩ := q
    simp only [List.map_cons, List.cons.injEq] at h1
    obtain ⟨e1, e2⟩ := h1
    subst e1
    rw [List.map_cons, List.map_cons] at h2
    obtain ⟨v', r', e, d1, d2⟩ := DRs.cons_.mp h2
    simp only [List.cons.injEq] at e
    obtain ⟨rfl, rfl⟩ := e
    exact ⟨v, r, rfl, d1, e2, d2⟩
theorem PvR.cons {k : κ} {d : D} {v : V} {kvs : List (κ × D)} {vs : List (κ × V)} (h : DR K F d v) (r : PvR K F kvs vs) : PvR K F ((k, d) :: kvs) ((k, v) :: vs) := ⟨by rw [List.map_cons, List.map_cons, r.1], .cons h r.2⟩
theorem PvR.len {kvs : List (κ × D)} {vs : List (κ × V)} (h : PvR K F kvs vs) : vs.length = kvs.length := by
  have := congrArg List.length h.1
  simpa using this
theorem PvR.get : ∀ {kvs : List (κ × D)} {vs : List (κ × V)} {k : κ}, PvR K F kvs vs → (∀ d, getD' kvs k = some d → ∃ v, valV vs k = some v ∧ DR K F d v) ∧ (getD' kvs k = none → valV vs k = none)
  | [], vs, k, h => by
    have : vs = [] := by cases vs with | nil => rfl | cons a b => have := h.1; simp at this
    subst this
    exact ⟨fun d e => by simp [getD'] at e, fun _ => rfl⟩
  | (k', d') :: kvs, vs, k, h => by
    obtain ⟨v, r, rfl, h1, h2⟩ := h.cons_
    by_cases e : k' = k
    · subst e
      refine ⟨fun d e => ?_, fun e => by simp [getD'] at e⟩
      simp [getD'] at e
      subst e
      exact ⟨v, valV_pos rfl, h1⟩
    · have ih := PvR.get (k := k) h2
      have e1 : getD' ((k', d') :: kvs) k = getD' kvs k := by simp [getD', List.find?_cons, e]
      rw [e1, valV_neg e]
      exact ih
end
def keyD : D → Option Key
  | .int i => some (.inl i)
  | .str x => some (.inr x)
  | _ => none
section
variable {K : Fg} {B : Bs} {pa : Option Addr} {zs : List (Option V)} {H F : Hp} {ws : List Sl} {pn : Sto}
end
section
variable {X : Cx} {pos p1 p2 : Pos} {x : Str} {k : Nat} {te : DW Sto} {u : OW Sto} {e b : Expr}
def dNewK (i : Nat) : DS Sto := fun E ρ => ∀ a, ρ.pn.ob a = none → ρ.pn.ls a = none → ρ.pn.dc a = none → E.nx ⟨ρ.sl.set i (.ref a), ρ.pn.putD a (.k [])⟩
def Dc.get : Dc → D → Option D
  | .k kvs, d => (keyD d).bind (getD' kvs)
  | _, _ => none
def dDGet (i : Nat) (t : OW Sto) : DW Sto := fun ρ P => gets (refS ρ.sl i) fun a => t ρ fun k ρ1 => gets (ρ1.pn.dc a) fun c => gets ((k.rd ρ1).bind c.get) fun d => P (.val d) ρ1
def dDPut (i : Nat) (t : OW Sto) (te : DW Sto) : DS Sto := fun E ρ => te ρ fun r ρ1 => gets (refS ρ1.sl i) fun a => t ρ1 fun k ρ2 => gets (ρ2.pn.dc a) fun c => match c with
  | .k kvs => gets ((k.rd ρ2).bind keyD) fun y => kvs.length < sizeLine ∧ E.nx ⟨ρ2.sl, ρ2.pn.putD a (.k (putD' kvs y r.d))⟩
  | _ => False
end
end Dk
namespace Dk
open PySem PySem.Spec PyProof.Rows L2
section
variable {S : Type} [StK S] {X : Cx} {tg a b c e : Expr} {ta tb : OW S} {t : OW S} {p p1 pos : Pos} {k : Nat} {te : DW S}
def dNever : DS S := fun _ _ => False
@[simp] theorem z_dNever {E : DE S} {ρ : En S} : dNever E ρ = False := rfl
def rangeDn (i : Int) (n : Nat) : List D := (List.range n).map fun m => .int (i - (m : Nat))
@[simp] theorem rangeDn_len {i : Int} {n : Nat} : (rangeDn i n).length = n := by simp [rangeDn]
def iRangeN (t u : OW S) : IW S := fun ρ P => t ρ fun k ρ1 => u ρ1 fun k2 ρ2 => gets ((k.rd ρ2).bind D.int?) fun i => gets ((k2.rd ρ2).bind D.int?) fun j => (-(2 ^ 62) ≤ i ∧ i < 2 ^ 62 ∧ -(2 ^ 62) ≤ j ∧ j < 2 ^ 62 ∧ i - j ≤ 16777216) ∧ P ⟨[], fun _ => some (rangeDn i (i - j).toNat)⟩ ρ2
@[simp↓] theorem z_iRangeN {s0 : Sl} {l0 : List Sl} {pn : S} {Pi : Sc → En S → Prop} : iRangeN ta tb ⟨s0 :: l0, pn⟩ Pi = ta ⟨s0 :: l0, pn⟩ fun k ρ1 => tb ρ1 fun k2 ρ2 => gets ((k.rd ρ2).bind D.int?) fun i => gets ((k2.rd ρ2).bind D.int?) fun j => (-(2 ^ 62) ≤ i ∧ i < 2 ^ 62 ∧ -(2 ^ 62) ≤ j ∧ j < 2 ^ 62 ∧ i - j ≤ 16777216) ∧ Pi ⟨[], fun _ => some (rangeDn i (i - j).toNat)⟩ ρ2 := rfl
def dExtend (i : Nat) (t : DW S) : DW S := fun ρ P => (own? ρ.sl i).isSome = true ∧ t ρ fun r ρ1 => match r with
  | .own ys => gets (own? ρ1.sl i) fun xs => xs.length + ys.length ≤ sizeLine ∧ P (.val .none) { ρ1 with sl := ρ1.sl.set i (.own (xs ++ ys)) }
  | _ => False
@[simp↓] theorem z_dExtend {i : Nat} {s0 : Sl} {l0 : List Sl} {pn : S} {P : Rs → En S → Prop} : dExtend i te ⟨s0 :: l0, pn⟩ P = ((own? (s0 :: l0) i).isSome = true ∧ te ⟨s0 :: l0, pn⟩ fun r ρ1 => match r with
  | .own ys => gets (own? ρ1.sl i) fun xs => xs.length + ys.length ≤ sizeLine ∧ P (.val .none) { ρ1 with sl := ρ1.sl.set i (.own (xs ++ ys)) }
  | _ => False) := rfl
end
section
variable {E : DE Sto} {s0 : Sl} {l0 : List Sl} {pn : Sto} {te : DW Sto} {t : OW Sto} {i : Nat} {P : Rs → En Sto → Prop} {a b : Addr} {c : Dc}
@[simp↓] theorem z_dNewK : dNewK i E ⟨s0 :: l0, pn⟩ = ∀ a, pn.ob a = none → pn.ls a = none → pn.dc a = none → E.nx ⟨(s0 :: l0).set i (.ref a), pn.putD a (.k [])⟩ := rfl
@[simp↓] theorem z_dDGet : dDGet i t ⟨s0 :: l0, pn⟩ P = gets (refS (s0 :: l0) i) fun a => t ⟨s0 :: l0, pn⟩ fun k ρ1 => gets (ρ1.pn.dc a) fun c => gets ((k.rd ρ1).bind c.get) fun d => P (.val d) ρ1 := rfl
@[simp↓] theorem z_dDPut : dDPut i t te E ⟨s0 :: l0, pn⟩ = te ⟨s0 :: l0, pn⟩ fun r ρ1 => gets (refS ρ1.sl i) fun a => t ρ1 fun k ρ2 => gets (ρ2.pn.dc a) fun c => match c with
  | .k kvs => gets ((k.rd ρ2).bind keyD) fun y => kvs.length < sizeLine ∧ E.nx ⟨ρ2.sl, ρ2.pn.putD a (.k (putD' kvs y r.d))⟩
  | _ => False := rfl
theorem dc_same : (pn.putD a c).dc a = some c := if_pos rfl
@[simp↓] theorem g_dcSame {k : Dc → Prop} : gets ((pn.putD a c).dc a) k = k c := by rw [dc_same]; rfl
@[simp] theorem ls_putD : (pn.putD a c).ls b = pn.ls b := rfl
@[simp] theorem ob_putD : (pn.putD a c).ob b = pn.ob b := rfl
@[simp] theorem pen_putD : (pn.putD a c).pen = pn.pen := rfl
@[simp↓] theorem g_keyI {z : Int} {k : Key → Prop} : gets (keyD (.int z)) k = k (.inl z) := rfl
@[simp↓] theorem g_keyS {z : Str} {k : Key → Prop} : gets (keyD (.str z)) k = k (.inr z) := rfl
@[simp↓] theorem g_dcGet {kvs : List (Key × D)} {d : D} {k : D → Prop} : gets ((Dc.k kvs).get d) k = gets (keyD d) fun y => gets (getD' kvs y) k := by
  show gets ((keyD d).bind (getD' kvs)) k = _
  exact g_bind
end
end Dk
namespace Dk
open PySem PySem.Spec PyProof.Rows L2
section
variable {X : Cx} {W : WX} {k : Nat} {f : Addr} {fd : FuncData} {ps : List Str} {dsp : DSpX Sto} {x : Str} {p pos : Pos} {e : Expr} {es : List Expr} {ta : AW Sto}
end
abbrev DSpXR := List Arg → Sto → (Addr → Sto → Prop) → (Exn → Sto → Prop) → Prop
def spOfXR (K : Fg) (n : Nat) (dsp : DSpXR) : Sp := fun vs H Q E => ∃ F pa T as s P PX, Szs H ∧ Le F H ∧ ArgsR K H F pa T as vs ∧ StK.R K pa H F (s : Sto) T ∧ (∀ b, T b → H b ≠ none ∧ F b = none) ∧ as.length = n ∧ dsp as s P PX ∧
  (∀ b s' H' F' T', P b s' → Fol K pa H F T s' H' F' T' → Q (.ref b) H') ∧ ∀ e s' cls d H' F' T', PX e s' → Fol K pa H F T s' H' F' T' → ExD K F' e cls d → E cls d H'
abbrev FnXR (P : Program) (w : World) (K : Fg) (mg : Str → Option Value) (base : Heap) (k : Nat) (f : Addr) (fd : FuncData) (ps : List Str) (dsp : DSpXR) : Prop := FnG P w K mg base (L2.CX P w) k f fd ps (spOfXR K ps.length dsp)
abbrev DSR := (Addr → Sto → Prop) → En Stx → Prop
def liftR (K : Fg) (u : DSR) : TS := fun Z σ H => ∃ B pa τ F ρ θ PR, Rel (S := Stx) K B pa (σ ++ τ) H F (ρ.sl ++ θ) ρ.pn ∧ ρ.sl.length = σ.length ∧ u PR ρ ∧ ∀ (zs : List (Option V)) (ws : List Sl) (x : Stx) b H' F', PR b x.s → Rel (S := Stx) K B pa zs H' F' ws x → Z.rt (.ref b) H'
abbrev CSR (X : Cx) (ss : List Stmt) (u : DSR) : Prop := PSs X ss (liftR X.K u)
theorem FnXR.mk {P : Program} {w : World} {K : Fg} {mg : Str → Option Value} {base : Heap} {x : Str} {st : Stmt} {f : Addr} {fd : FuncData} {N ps : List Str} {k : Nat} {dsp : DSpXR} {tt : Tag → (Exn → Sto → Prop) → DSR} (Fu : Dfn K mg x st f fd) (Sc : FnScope N ps (defScope st))
    (hbody : ∀ (t : Tag) (g : Exn → Sto → Prop) (cdv : Value) (A : Around) (outer : List Env) (s : Shared) (H : Hp) (E : XK), XO (cxX P w K mg base N x (defScope st) f cdv A outer s H E) k → XLk (cxX P w K mg base N x (defScope st) f cdv A outer s H E) t g → CSR (cxX P w K mg base N x (defScope st) f cdv A outer s H E) (defBody st) (tt t g))
    (hlaw : ∀ as s Q QX t, as.length = ps.length → dsp as s Q QX → tt t QX Q ⟨startD N.length as, ⟨s, t⟩⟩) : FnXR P w K mg base (k + 1) f fd ps dsp := by
  obtain ⟨oc, od, dV, kV, doc, pm, an, cdv, ct, osl, rfl, lk, hcd, hD, _⟩ := Fu.F.ex
  refine fng_of lk hcd Sc (fun vs H Q E ⟨F, pa, T, as, pn, P, PX, _, _, h, _, _, hl, _⟩ => by rw [h.len, hl]) fun A outer s H vs Q E hr hgd hsp => ?_
  obtain ⟨F, pa, T, as, pn, PQ, PX, hz, hF, ha, hp, hpl', hl, hd, q, qx⟩ := hsp
  have X0 : XO (cxX P w K mg base N x (defScope st) f cdv A outer s H E) k := ⟨rfl, hr, hgd, Sc.nd, PassesOwn.leaving⟩
  have r0 : StoR K pa H F pn T := hp
  have L : XLk (cxX P w K mg base N x (defScope st) f cdv A outer s H E) ⟨H, F, T, pa⟩ PX := ⟨E, takes_of rfl rfl rfl rfl, fun e s' cls d H' F' T' hg fo hx => qx e s' cls d H' F' _ hg fo hx⟩
  refine ⟨_, hbody ⟨H, F, T, pa⟩ _ cdv A outer s H E X0 L, ⟨H, F, T⟩, pa, [], F, ⟨startD N.length as, ⟨pn, ⟨H, F, T, pa⟩⟩⟩, [], PQ, by
    have h := rel_startT (S := Stx) (N := N) (pn := ⟨pn, ⟨H, F, T, pa⟩⟩) hz hF ha r0 hpl' (fun r e => by
      cases e
      exact ⟨rfl, rfl, rfl, Le.refl _, fun b o e => .inl e⟩)
    rw [List.append_nil, List.append_nil]
    exact h, by
      have hpl : ps.length ≤ N.length := by have := congrArg List.length Sc.pre; rw [List.length_take] at this; omega
      simp [L2.start, startD, ha.len], hlaw as pn PQ PX _ hl hd, fun zs ws x b H' F' hp R => ?_⟩
  obtain ⟨T', t⟩ := R.st
  exact q b x.s H' F' T' hp ⟨R.sz, R.f0, R.fh, R.fr, R.base, t.r, fun b hb => ⟨(t.bs b hb).symm, t.hn b hb, t.fn b hb⟩, R.pal⟩
section
variable {X : Cx} {W : WX} {k : Nat} {f : Addr} {fd : FuncData} {ps : List Str} {dsp : DSpXR} {x : Str} {p pos : Pos} {e b : Expr} {es : List Expr} {ta : AW Sto}
end
section
variable {X : Cx} {k : Nat} {a b : Expr} {ta : AW Stx} {pos : Pos}
end
end Dk
namespace Dk
open PySem PySem.Spec PyProof.Rows L2
def oexB (K : Fg) (C : Addr) : Bool := match K.lookup C with
  | some ⟨.type "type", _, .cls cd, sl⟩ => (match cd.mro, sl.toList with
    | .ref C' :: bm, [_, _, _, _, some (.builtin n), _] => C' == C && (n == "ValueError.__new__" && (!cd.hasDel && (cd.hasDict && PySem.HandSPX.refsVE bm)))
    | _, _ => false)
  | _ => false
theorem oexB_ok {K : Fg} {C : Addr} (q : oexB K C = true) : ∃ nm q N bs bm sn sub ab col dd k0 k1 k2 k3 k5, K.lookup C = some (excClassObj nm q C N bs bm true sn sub ab col dd k0 k1 k2 k3 k5 "ValueError.__new__") ∧ PySem.HandSPX.refsVE bm = true := by
  unfold oexB at q
  split at q
  · rename_i dd cd sl ho
    split at q
    · rename_i C' bm k0 k1 k2 k3 n k5 hm hs
      simp only [Bool.and_eq_true, beq_iff_eq, Bool.not_eq_true'] at q
      obtain ⟨rfl, rfl, hdel, hdi, ht⟩ := q
      obtain ⟨nm, bs, mro, ns, qn, hd, sn, sub, ab, col, del⟩ := cd
      dsimp only at hm hdel hdi
      subst hm hdel hdi
      have hsl : sl = #[k0, k1, k2, k3, some (.builtin "ValueError.__new__"), k5] := by
        obtain ⟨l⟩ := sl
        simp only at hs
        rw [hs]
      subst hsl
      exact ⟨nm, qn, ns, bs, bm, sn, sub, ab, col, dd, k0, k1, k2, k3, k5, ho, ht⟩
    · cases q
  · cases q
def baseB (K : Fg) (B : Addr) : Bool := PySem.W.readsIn K B (.type "type") && ((match PySem.W.findCls K (.ref B) (.type "type") "__init__" with
  | some (.val (.builtin n)) => n == "ValueError.__init__"
  | _ => false) && decide (PySem.W.specialIn K (.ref B) "__getattribute__" = some (some (.builtin "type.__getattribute__"))))
theorem baseB_ok {K : Fg} {B : Addr} (h : baseB K B = true) : BaseI K B := by
  unfold baseB at h
  simp only [Bool.and_eq_true, decide_eq_true_eq] at h
  obtain ⟨h1, h2, h3⟩ := h
  refine ⟨⟨_, h1, ?_⟩, h3⟩
  split at h2
  · rename_i n e
    rw [e, beq_iff_eq.mp h2]
  · cases h2
structure TM (K : Fg) (mg : Str → Option Value) (x y : Str) (C B f : Addr) : Prop where
  nc : NodeC K C
  bi : BaseI K B
  iC : PySem.W.findIn K (.ref C) "__init__" = some (some (.ref f))
  tI : PySem.W.typeIn K (.ref f) = some (.type "function")
  em : PySem.W.exmOne K (.ref C) (.ref C) = some true
  mC : mg x = some (.ref C)
  mB : mg y = some (.ref B)
end Dk
namespace Dk
open PySem PySem.Spec PyProof.Rows L2
section
variable {prog : Program} {w : World} {A : Around} {s : Shared} {env : Env} {E : Value → Shared → Prop}
structure LmE (s : Shared) (env : Env) (x : Str) (v : Value) : Prop where
  kind : env.scope.kind = .function
  kx : env.kindOf x = some .local
  loc : ∃ m, s.heap.Ns env.locals m ∧ m x = some v
  sum : ∀ {M : Model} {A : Around} {E : Value → Shared → Prop} {pos : Pos} {Q : Value → Shared → Prop}, Q (.builtin "sum") s → wpAny M A (eval (.Name "sum" pos) env) Q E s
end
end Dk
namespace Dk
open PySem PySem.Spec PyProof.Rows L2
structure Lm1 (scope : Scope) (x : Str) : Prop where
  kind : scope.kind = .function
  co : scope.isCoroutine = false
  gen : scope.isGenerator = false
  cell : ∀ y ∈ scope.names, y.2 ≠ .cell ∧ y.2 ≠ .free
  x : scope.names.lookup x = some .local
  sum : scope.names.lookup ("sum" : Str) = some .globalImplicit
section
variable {X : Cx} {pins : List (Addr × Obj)} {σ : L2.St} {H : Hp} {s : Shared}
end
def NewL (P : Addr) (q : Str) (ps : Array Value) (H H1 : Hp) (c' : Addr) : Prop :=
  (H1 = H ∧ H c' = some (LamX.CodeO c' q)) ∨ (H c' = none ∧ ∃ more : Array Value, H1 = upd (upd H P (.tbl (ps ++ more))) c' (LamX.CodeO c' q) ∧ TriplesOk (ps ++ more).toList ∧ ∀ (pos : Pos) (cv : Value), codeAmong pos (ps ++ more).toList = some cv → codeAmong pos ps.toList = some cv ∨ cv = .ref c')
section
variable {X : Cx} {pins : List (Addr × Obj)} {σ : L2.St} {H : Hp} {s : Shared}
theorem NewL.old {P c' : Addr} {q : Str} {ps : Array Value} {H H1 : Hp} (h : NewL P q ps H H1 c') (hP : H P = some (.tbl ps)) {b : Addr} {o : HO} (e : H b = some o) (n : ∀ qs, o ≠ .tbl qs) : H1 b = some o := by
  rcases h with ⟨rfl, h⟩ | ⟨hc, m, rfl, _⟩
  · exact e
  · have n1 : b ≠ c' := fun z => by rw [z, hc] at e; cases e
    have n2 : b ≠ P := fun z => by
      rw [z, hP] at e
      cases e
      exact n _ rfl
    rw [upd_ne n1, upd_ne n2]
    exact e
theorem NewL.t {K : Fg} {P c' : Addr} {q : Str} {ps : Array Value} {H H1 : Hp} (h : NewL P q ps H H1 c') (hP : H P = some (.tbl ps)) {a : Addr} {xs : List V} (e : SqT K H a xs) : SqT K H1 a xs := by
  rcases e with (e | ⟨o, e⟩) | e
  · exact .inl (.inl (h.old hP e fun _ => nofun))
  · exact .inl (.inr ⟨o, h.old hP e fun _ => nofun⟩)
  · exact .inr e
theorem NewL.l {K : Fg} {P c' : Addr} {q : Str} {ps : Array Value} {H H1 : Hp} (h : NewL P q ps H H1 c') (hP : H P = some (.tbl ps)) {a : Addr} {xs : List V} (e : SqL K H a xs) : SqL K H1 a xs := by
  rcases e with (e | ⟨o, e⟩) | e
  · exact .inl (.inl (h.old hP e fun _ => nofun))
  · exact .inl (.inr ⟨o, h.old hP e fun _ => nofun⟩)
  · exact .inr e
end
section
variable {X : Cx} {e : Expr} {te : TE}
end
end Dk
namespace Dk
open PySem PySem.Spec PyProof.Rows L2
abbrev Ent := List Int × Addr × Value
def EnR (K : Fg) (F : Hp) : List Ent → List (List Int × D) → Prop
  | [], kvs => kvs = []
  | x :: xs, kvs => ∃ d r v, kvs = (x.1, d) :: r ∧ CqT K F x.2.1 (x.1.map V.int) ∧ RelV v x.2.2 ∧ DR K F d v ∧ EnR K F xs r
section
variable {K : Fg} {F G : Hp}
theorem EnR.mono (e : Le F G) : ∀ {xs : List Ent} {kvs : List (List Int × D)}, EnR K F xs kvs → EnR K G xs kvs
  | [], _, h => h
  | x :: xs, _, ⟨d, r, v, e1, h1, h2, h3, h4⟩ => ⟨d, r, v, e1, e.ct h1, h2, h3.mono e, EnR.mono e h4⟩
theorem EnR.len : ∀ {xs : List Ent} {kvs : List (List Int × D)}, EnR K F xs kvs → xs.length = kvs.length
  | [], _, h => by rw [show _ = [] from h]; rfl
  | x :: xs, _, ⟨d, r, v, e1, _, _, _, h4⟩ => by rw [e1, List.length_cons, List.length_cons, EnR.len h4]
theorem EnR.snoc {k : List Int} {b : Addr} {u : Value} {v : V} {d : D} (hb : CqT K F b (k.map V.int)) (hv : RelV v u) (hd : DR K F d v) : ∀ {xs : List Ent} {kvs : List (List Int × D)}, EnR K F xs kvs → EnR K F (xs ++ [(k, b, u)]) (kvs ++ [(k, d)])
  | [], _, h => by rw [show _ = [] from h]; exact ⟨d, [], v, rfl, hb, hv, hd, rfl⟩
  | x :: xs, _, ⟨d', r, v', e1, h1, h2, h3, h4⟩ => by rw [e1]; exact ⟨d', _, v', rfl, h1, h2, h3, h4.snoc hb hv hd⟩
theorem EnR.get : ∀ {xs : List Ent} {kvs : List (List Int × D)} {i : Nat} {p : List Int × D}, EnR K F xs kvs → kvs[i]? = some p → ∃ x v, xs[i]? = some x ∧ x.1 = p.1 ∧ CqT K F x.2.1 (p.1.map V.int) ∧ RelV v x.2.2 ∧ DR K F p.2 v
  | [], _, i, p, h, e => by rw [show _ = [] from h] at e; simp at e
  | x :: xs, _, 0, p, ⟨d, r, v, e1, h1, h2, h3, h4⟩, e => by
    rw [e1] at e
    simp at e
    subst e
    exact ⟨x, v, rfl, rfl, h1, h2, h3⟩
  | x :: xs, _, i + 1, p, ⟨d, r, v, e1, h1, h2, h3, h4⟩, e => by
    rw [e1] at e
    exact EnR.get (i := i) h4 (by simpa using e)
theorem EnR.at_ {k : List Int} : ∀ {xs : List Ent} {kvs : List (List Int × D)}, EnR K F xs kvs → (∀ d, getD' kvs k = some d → ∃ p v, atKey xs k = some p ∧ RelV v p.2 ∧ DR K F d v) ∧ (getD' kvs k = none → atKey xs k = none)
  | [], _, h => by rw [show _ = [] from h]; exact ⟨fun d e => by simp [getD'] at e, fun _ => rfl⟩
  | x :: xs, _, ⟨d', r, v, e1, h1, h2, h3, h4⟩ => by
    rw [e1]
    by_cases e : x.1 = k
    · refine ⟨fun d ed => ⟨x.2, v, by simp [atKey, e], h2, ?_⟩, fun ed => by simp [getD', e] at ed⟩
      simp [getD', e] at ed
      subst ed
      exact h3
    · have ih := EnR.at_ (k := k) h4
      have z1 : getD' ((x.1, d') :: r) k = getD' r k := by simp [getD', List.find?_cons, e]
      have z2 : atKey (x :: xs) k = atKey xs k := by simp [atKey, List.find?_cons, e]
      rw [z1, z2]
      exact ih
end
section
variable {X : Cx} {pins : List (Addr × Obj)} {σ : L2.St} {H : Hp} {s : Shared}
end
section
variable {X : Cx} {o e f : Expr} {to : TE} {ta : TA} {apos cpos : Pos}
end
end Dk
namespace Dk
open PySem PySem.Spec PyProof.Rows L2
section
variable {K : Fg} {B : Bs} {pa : Option Addr} {zs : List (Option V)} {H F : Hp} {ws : List Sl} {pn : Sto}
end
theorem EnR.vals {K : Fg} {F : Hp} : ∀ {xs : List Ent} {kvs : List (List Int × D)}, EnR K F xs kvs → ∃ vs, Vals vs (xs.map (·.2.2)) ∧ DRs K F (kvs.map (·.2)) vs
  | [], _, h => by rw [show _ = [] from h]; exact ⟨[], .nil, .nil⟩
  | x :: xs, _, ⟨d, r, v, e1, h1, h2, h3, h4⟩ => by
    obtain ⟨vs, g1, g2⟩ := EnR.vals h4
    rw [e1]
    exact ⟨v :: vs, .cons h2 g1, .cons h3 g2⟩
section
variable {X : Cx} {pos p1 p2 : Pos} {x : Str} {k : Nat} {te : DW Sto} {u : OW Sto} {e b : Expr}
end
end Dk
namespace Dk
open PySem PySem.Spec PyProof.Rows L2
section
variable {K : Fg} {B : Bs} {pa : Option Addr} {zs : List (Option V)} {H F H1 : Hp} {ws : List Sl} {pn : Sto}
end
section
variable {X : Cx} {e : Expr} {t : OW Sto} {k : Nat}
end
end Dk
namespace Dk
open PySem PySem.Spec PyProof.Rows L2
section
variable {P : Program} {w : World} {K : Fg} {mg mb : Str → Option Value} {k : Nat} {fa a cA tP : Addr} {fd : FuncData} {x : Str} {s : Shared} {vs : List Value} {ns : List Int}
end
end Dk
namespace Dk
open PySem PySem.Spec PyProof.Rows L2 He
variable {n : Nat} {fa : List Fa} {fn : List DefD} {ts : List Tab} {tf : List Defn} {ex : PySem.W.Frag → Bool}
def asY (g : Addr → Option Obj) (n : Nat) : List Addr := asD g n ++ [cStatics]
def obsY (n : Nat) (fa : List Fa) (fn : List DefD) (ts : List Tab) (tf : List Defn) (ex : PySem.W.Frag → Bool) (g : Addr → Option Obj) : AlX := (obsT fa fn ts (frT g (asY g n)), ex (frT g (asY g n)) && tabsB g tf (frT g (asY g n)))
theorem saysY_of {w : World} {h : Heap} (e : obsY n fa fn ts tf ex h.get? = valX fn ts w) : SaysX fa fn ts tf ex w h (frT h.get? (asY h.get? n)) := by
  have e2 : (ex (frT h.get? (asY h.get? n)) && tabsB h.get? tf (frT h.get? (asY h.get? n))) = true := congrArg Prod.snd e
  rw [Bool.and_eq_true] at e2
  have key : ∀ p ∈ tf, PySem.W.codeHdIn (frT h.get? (asY h.get? n)) (cT (frT h.get? (asY h.get? n)) p).1 (cT (frT h.get? (asY h.get? n)) p).2 = true ∧ ∃ o, h.get? (cT (frT h.get? (asY h.get? n)) p).2 = some o ∧ emptyTab o = true := fun p hp => by
    have q := List.all_eq_true.mp e2.2 p hp
    rw [Bool.and_eq_true] at q
    refine ⟨q.1, ?_⟩
    have q2 := q.2
    split at q2
    · rename_i o ho
      exact ⟨o, ho, q2⟩
    · cases q2
  refine ⟨congrArg Prod.fst e, e2.1, fun p hp => (key p hp).1, fun p hp => ?_, fun p hp => ?_⟩
  · obtain ⟨_, o, q, z⟩ := key p hp
    exact frT_none q z
  · obtain ⟨_, o, q, z⟩ := key p hp
    rw [q, emptyTab_eq z]
def hookY (n : Nat) (fa : List Fa) (fn : List DefD) (ts : List Tab) (tf : List Defn) (ex : PySem.W.Frag → Bool) : PySem.W.Hook where
  α := AlX
  obs := fun s => obsY n fa fn ts tf ex s.heap.get?
  val := fun w => valX fn ts w
  says := fun w h => ∃ K : PySem.W.Frag, K.In h ∧ SaysX fa fn ts tf ex w h K
  of := fun _ _ e => ⟨_, frT_in, saysY_of e⟩
  keeps := fun _ _ _ ⟨K, hK, c⟩ k => ⟨K, PySem.W.Frag.In.keeps hK k, ⟨c.t, c.more, c.hd, c.out, fun p hp => k _ _ (c.empty p hp)⟩⟩
theorem obsY_eq {g : Addr → Option Obj} {s : Shared} (h : ∀ a, g a = s.heap.get? a) : obsY n fa fn ts tf ex g = (hookY n fa fn ts tf ex).obs s := by
  have e : g = s.heap.get? := funext h
  rw [e] <;> rfl
end Dk
namespace Dk
open PySem PySem.Spec PyProof.Rows L2
variable {S : Type} [StK S]
def lcO (c : Sc) (items : List D) (g : GW S) (tt : BW S) (it1 : IW S) (g1 : GW S) (tt1 : BW S) (te : OW S) (vs vs1 : List Nat) (Q : List D → En S → Prop) : List D → List D → En S → Prop
  | [], acc, ρ => c.items ρ = some items ∧ Q acc ρ
  | d :: r, acc, ρ => c.items ρ = some items ∧ g d ρ fun ρ1 => tt ρ1 fun b ρ2 => if b = true then
      it1 ρ2 fun c1 ρ3 => gets (c1.items ρ3) fun items1 => acc.length + items1.length ≤ sizeLine ∧
        lcW c1 items1 g1 tt1 te vs1 (fun acc' ρ4 => lcO c items g tt it1 g1 tt1 te vs vs1 Q r acc' { ρ4 with sl := wipeD ρ4.sl vs }) items1 acc { ρ3 with sl := wipeD ρ3.sl vs1 }
      else lcO c items g tt it1 g1 tt1 te vs vs1 Q r acc { ρ2 with sl := wipeD ρ2.sl vs }
def dLc2 (it : IW S) (g : GW S) (tt : BW S) (it1 : IW S) (g1 : GW S) (tt1 : BW S) (te : OW S) (vs vs1 : List Nat) : DW S := fun ρ P => it ρ fun c ρ1 => gets (c.items ρ1) fun items => items.length ≤ sizeLine →
  lcO c items g tt it1 g1 tt1 te vs vs1 (fun acc ρ2 => P (.own acc) { ρ2 with sl := unwipe ρ1.sl ρ2.sl vs }) items [] { ρ1 with sl := wipeD ρ1.sl vs }
section
variable {X : Cx} {tg iter tg1 iter1 elt : Expr} {ifs ifs1 : List Expr} {scope : Scope} {pos : Pos} {k : Nat} {it it1 : IW S} {g g1 : GW S} {tt tt1 : BW S} {te : OW S} {is is1 : List Nat}
end
section
variable {s0 : Sl} {l0 : List Sl} {pn : S} {it it1 : IW S} {g g1 : GW S} {tt tt1 : BW S} {te : OW S} {vs vs1 : List Nat} {P : Rs → En S → Prop}
@[simp↓] theorem z_dLc2 : dLc2 it g tt it1 g1 tt1 te vs vs1 ⟨s0 :: l0, pn⟩ P = it ⟨s0 :: l0, pn⟩ fun c ρ1 => gets (c.items ρ1) fun items => items.length ≤ sizeLine →
  lcO c items g tt it1 g1 tt1 te vs vs1 (fun acc ρ2 => P (.own acc) ⟨unwipe ρ1.sl ρ2.sl vs, ρ2.pn⟩) items [] ⟨wipeD ρ1.sl vs, ρ1.pn⟩ := rfl
end
end Dk
set_option maxHeartbeats 4000000
namespace Dk
open PySem PySem.Spec PyProof.Rows L2
section
open PySem.W PySem.Calls
variable {prog : Program} {w : World} {A : Around} {E : Value → Shared → Prop} {s : Shared} {K : Fg} {x D : Addr} {ox : Obj} {od : Option Obj}
theorem findObj_dataO {C : Addr} {name : Str} {a g : Value} (hc : (clsIn K C).isSome = true) (ha : findIn K (.ref C) name = some (some a)) (hg : specialIn K a "__get__" = some (some g)) (ht : takesIn K a = some true) : findObj K C od name = some (.bind g a) := by
  obtain ⟨cd, hc⟩ := Option.isSome_iff_exists.mp hc
  unfold findObj
  rw [hc, Option.bind_some, ha, Option.bind_some]
  simp [hg, ht]
theorem kin_classD {Q : Option Value → Shared → Prop} (hga : findIn K (.ref D) "__getattribute__" = some (some (.builtin "BaseException.__getattribute__"))) (hgt : findIn K (.ref D) "__getattr__" = some none) (hsub : subIn K (.ref D) (.type "BaseException") = some true)
    (hdct : hasDictIn K D = true) (ha : findIn K (.ref D) "__class__" = some (some (.builtin "object.__class__")))
    (hn : specialIn K (.builtin "object.__class__") "__get__" = some (some (.builtin "getset_descriptor.__get__"))) (htk : takesIn K (.builtin "object.__class__") = some true) (hm : mroIn K D (.type "object") = some true)
    (X : K.In s.heap) (I : InstAt s.heap x ox D od) (h : Q (some (.ref D)) { s with toks := s.toks + 1 }) : wpAny (model prog w) A (getAttr? (.ref x) "__class__") Q E s := by
  have hf : findObj K D od "__class__" = some (.bind (.builtin "getset_descriptor.__get__") (.builtin "object.__class__")) := findObj_dataO (by obtain ⟨cd, hc, _⟩ := any_some hdct; rw [hc]; rfl) ha hn htk
  obtain ⟨hp, g, d, t, os⟩ := s
  have L0 := I.type (M := model prog w)
  have L1 := looks_findIn (M := model prog w) X hga
  have L2 := looks_findIn (M := model prog w) X hgt
  have L3 := looks_find (M := model prog w) X I hf
  have sub : Looks (model prog w) hp (isInstance (.ref x) (.type "BaseException")) true := L0.andThen (looks_subIn X hsub)
  have hx0 : (false && onTheHeap (Value.builtin "BaseException.__getattribute__")) = false := rfl
  have hx2 : (Value.builtin "BaseException.__getattribute__" == Value.builtin "object.__getattribute__") = false := by decide +kernel
  have hx1 : (onTheHeap (Value.ref D) && Value.builtin "BaseException.__getattribute__" == Value.builtin "object.__getattribute__") = false := by rw [hx2]; rfl
  unfold getAttr? getAttrBy? getAttrBy
  refine wpAny_bind (wpAny_mkText (wpAny_bind (wpAny_attempt (wpAny_holding (wpAny_bind (L0.at (wpAny_bind (L1.at ?_))))))))
  show wpAny _ _ (if (onTheHeap (Value.ref D) && Value.builtin "BaseException.__getattribute__" == Value.builtin "object.__getattribute__") = true then _ else _) _ _ _
  rw [hx1, if_neg Bool.false_ne_true]
  unfold getAttrByItsOwn hookBefore
  refine wpAny_bind ?_
  rw [if_pos (show onTheHeap (Value.ref D) = true from rfl)]
  refine L2.at ?_
  refine wpAny_bind (wpAny_attempt (wpAny_holding ?_))
  unfold callGetattribute
  rw [hx0, if_neg Bool.false_ne_true]
  unfold boundAndCalled
  rw [PySem.F.excAttr_ValueError.ga.bind (.ref x)]
  refine wpAny_bind (wpAny_pure ?_)
  show wpAny _ _ (call (.builtin "BaseException.__getattribute__") [.ref x, .str "__class__" t]) _ _ _
  refine wpAny_call (codeAny_call_builtin PySem.F.excAttr_ValueError.ga.plain PySem.F.entry_bexc_ga ?_)
  refine @check_slot (model prog w) _ _ ⟨hp, g, d, t + 1, os⟩ "BaseException.__getattribute__" "BaseException" "__getattribute__" (.ref x) [.str "__class__" t] [] _ (by decide +kernel) (by decide +kernel) sub (PySem.F.args_bexc_ga (.ref x) (.str "__class__" t)) ?_
  unfold Builtin.«object.__getattribute__»
  refine wpAny_bind (wpAny_of_eq (a := ((Value.ref x : Value), [Value.str "__class__" t])) (by first | rfl | (simp only [slotArgs]; rfl)) ?_)
  refine wpAny_bind (wpAny_pure (wpAny_bind (L0.at (wpAny_bind (L3.at ?_)))))
  show wpAny _ _ (holding [Value.builtin "object.__class__"] (call (.builtin "getset_descriptor.__get__") [.builtin "object.__class__", .ref x, .ref D]) >>= ret) _ _ _
  refine wpAny_bind (wpAny_holding (wpAny_call (class_get (s := ⟨hp, g, d, t + 1, os⟩) (ox := ox) (od := od) X I hm ?_)))
  refine wpAny_pure ?_
  show wpAny _ _ (handedOut (.ref D)) _ _ _
  rw [handedOut_of (v := .ref D) rfl]
  first
    | exact wpAny_pure (wpAny_pure h)
    | exact wpAny_pure h
    | exact wpAny_pure (wpAny_bind (wpAny_pure (wpAny_pure h)))
theorem kitx_excD (C : ExcC K D) : KitX K (.ref x) (.ref D) (fun h => ∃ ox od, InstAt h x ox D od) where
  ty := fun _ _ _ ⟨_, _, I⟩ => I.type
  it := fun _ _ X _ => by
    obtain ⟨cdD, hcD, _⟩ := any_some C.hd
    unfold clsIn at hcD
    split at hcD
    · rename_i c' d' cd' sl' ho
      intro A' Q' E' s' k q
      unfold isType loadHead
      exact wpAny_bind (wpAny_loadPart (k _ _ (X _ _ ho)) (wpAny_pure q))
    · cases hcD
  ne := fun h tp dd its n sl X htp => by
    obtain ⟨cdD, hcD, _⟩ := any_some C.hd
    refine Bool.eq_false_iff.mpr fun q => ?_
    have e : D = tp := Value.ref.inj (beq_iff_eq.mp q)
    subst e
    unfold clsIn at hcD
    split at hcD
    · rename_i c' d' cd' sl' ho
      have z := (X _ _ ho).symm.trans htp
      cases z
    · cases hcD
  ca := fun X ⟨_, _, I⟩ k => kin_classD C.hg C.hk C.hs C.hd C.ha C.hn C.ht C.hm X I k
end
theorem exq_ok {P : Program} {w : World} {H : Hp} {h : Heap} {a C dx : Addr} {vs : Array Value} (he : h.get? a = some ({ cls := .ref C, dict := some dx, data := .fields vs } : Obj)) : ObjOk P w H h a (exq a C dx) :=
  ⟨⟨vs, he⟩, ⟨_, he⟩, fun h1 h2 z k => by
    obtain ⟨t, q⟩ := z
    exact ⟨t, k _ q⟩⟩
theorem exq_at {P : Program} {w : World} {H : Hp} {h : Heap} {a C dx : Addr} (hok : HOk P w H h) (he : H a = some (exq a C dx)) : ∃ vs, h.get? a = some ({ cls := .ref C, dict := some dx, data := .fields vs } : Obj) := by
  have x : ObjOk P w H h a (.ext fun h => ∃ vs, h.get? a = some ({ cls := .ref C, dict := some dx, data := .fields vs } : Obj)) := hok a _ he
  exact x.1
theorem exq_inst {X : Cx} {pins : List (Addr × Obj)} {σ : L2.St} {H : Hp} {s : Shared} {a C dx : Addr} {fs : List (Str × V)} (I : Inv X pins σ H s) (e : H a = some (exq a C dx)) (ed : H dx = some (.xd fs)) :
    ∃ (ox od : Obj) (mA : Str → Option Value), PySem.W.InstAt s.heap a ox C (some od) ∧ (∀ f, RelO (fs.lookup f) (mA f)) ∧ ∀ f, PySem.W.lookIn f od = some (mA f) := by
  obtain ⟨vs, hx⟩ := exq_at I.hok e
  have hd : ObjOk X.prog X.w H s.heap dx (.xd fs) := I.hok dx _ ed
  obtain ⟨mA, hns, hr⟩ := hd
  obtain ⟨od, ho, hl⟩ := lookIn_ns hns
  exact ⟨_, od, mA, ⟨hx, rfl, rfl, ho⟩, hr, hl⟩
def rIsQ (K : Fg) : List V → Hp → VK → Prop := fun xs H Q => ∃ (a C dx : Addr) (fs : List (Str × V)) (c : V) (cv : Value) (b : Bool), xs = [.ref a, c] ∧ H a = some (exq a C dx) ∧ H dx = some (.xd fs) ∧ ExcC K C ∧ (∀ u, RelV c u → u = cv) ∧ PySem.W.kitOne K (.ref C) cv = some b ∧ Q (.bl b) H
theorem call_isQ {X : Cx} : CallR X (.builtin "isinstance") (rIsQ X.K) := by
  intro pins s σ H xs us Q I r h
  obtain ⟨a, C, dx, fs, c, cv, b, rfl, ha, hd, ec, hcv, e, q⟩ := h
  cases r with
  | cons rx rr =>
    cases rr with
    | cons rt rr =>
      cases rr
      cases rx
      have ev := hcv _ rt
      subst ev
      obtain ⟨ox, od, mA, J, _, _⟩ := exq_inst I ha hd
      exact PySem.W.kia_one (kitx_excD ec) I.kIn ⟨ox, some od, J⟩ e (fun z => nomatch z) fun tk => ⟨.bl b, H, I.kept (t' := tk) fun _ _ z => z, rfl, q⟩
def tXq (K : Fg) (f : Str) (te : TE) : TE := fun σ H Q => te σ H fun x H1 => ∃ (a C dx : Addr) (fs : List (Str × V)) (v : V), x = .ref a ∧ H1 a = some (exq a C dx) ∧ H1 dx = some (.xd fs) ∧ XfC K C ∧ PySem.W.findIn K (.ref C) f = some none ∧ fs.lookup f = some v ∧ Q v H1
theorem pe_xq {X : Cx} {e : Expr} {te : TE} {pos : Pos} {n : Str} (he : PE X e te) (hb : attributeBase e n X.env (eval e X.env) = eval e X.env := by rfl) : PE X (.Attribute e n pos) (tXq X.K n te) := by
  refine ⟨fun pins s σ H Q I h => ?_⟩
  refine attr_of hb (thn (he.run pins s σ H _ I h) fun u s1 hh => ?_)
  obtain ⟨x, H1, I1, rx, a, C, dx, fs, v, ex, ea, ed, T, hno, l, q⟩ := hh
  subst ex
  obtain rfl : u = Value.ref a := rx
  obtain ⟨ox, od, mA, J, hr, hl⟩ := exq_inst I1 ea ed
  obtain ⟨u, hu, ru⟩ := RelO.some_of (v := v) (o := mA n) (by rw [← l]; exact hr n)
  exact HandSPX.exc_get I1.kIn J T.ga T.gg T.exC (PySem.W.findObj_own T.hdC hno rfl (by rw [hl, hu])) (handed_of ru) ⟨v, H1, I1.tok _, ru, q⟩
def tMkQ (C : Addr) (sp : Sp) (dvs : List V) (ta : TA) : TE := fun σ H Q => ta σ H fun vs H1 => vs.length ≤ 1000 ∧ ∀ a, H1 a = none → sp (.ref a :: (vs ++ dvs)) (upd H1 a (exo a C none))
  (fun v H2 => v = .non ∧ ∃ (d : Addr) (fs : List (Str × V)), H2 a = some (exo a C (some d)) ∧ H2 d = some (exd d fs) ∧ H1 d = none ∧ Q (.ref a) (upd (upd (del H2 a) d (.xd fs)) a (exq a C d))) (fun _ _ _ => False)
theorem pe_oexQ {X : Cx} {e : Expr} {es : List Expr} {ta : TA} {p pos : Pos} {CX : CXT} {x : Str} {C fI : Addr} {k : Nat} {fd : FuncData} {ps : List Str} {sp : Sp} {ds : List Value} {dvs : List V} (T : OexC X.K C) (iC : PySem.W.findIn X.K (.ref C) "__init__" = some (some (.ref fI))) (tI : PySem.W.typeIn X.K (.ref fI) = some (.type "function"))
    (F1 : FnOk X.prog X.w X.K X.mg X.base CX k fI fd ps sp) (hr : Room (k + 1) X.A) (hb : Binds X.K fd ps ds) (hd : Vals dvs ds) (hx : Passes CX X (fun _ _ _ => False)) (hg : Gl X x) (hm : X.mg x = some (.ref C)) (ha : PA X (e :: es) ta)
    (hdb : (x == ("__debug__" : Str)) = false := by decide) (he : starEach (e :: es) X.env = (false, eval e X.env) :: starEach es X.env := by rfl) (hpl : (backTo pos (starEach es X.env)).any (·.1) = false := by rfl) :
    PE X (.Call (.Name x p) (e :: es) [] pos) (tMkQ C sp dvs ta) := by
  refine ⟨fun pins s σ H Q I h => ?_⟩
  obtain ⟨nm, q, N, bs, bm, sn, sub, ab, col, dd, k0, k1, k2, k3, k5, hC, hbm⟩ := T.cls
  refine wpAny_Call_Name_kw (ld_glob I hg hm ?_ hdb)
  refine PySem.W.callWith_K (h₀ := X.base) I.ok.mod.kin T.kC (thn (ha.run pos pins s σ H _ I h) fun us s1 ⟨vs, H1, I1, r1, hz, q1⟩ => ⟨I1.kIn, ?_⟩) he hpl
  show wpAny _ _ (call (.ref C) us) _ _ _
  obtain ⟨hp, g, dr, tk, os⟩ := s1
  have hsz : hp.objs.size ≤ hp.objs.size + 1 := Nat.le_succ _
  have hn : H1 (hp.objs.size + 1) = none := I1.hok.fresh hsz
  have hq := q1 (hp.objs.size + 1) hn
  have kk : ∀ b o, hp.get? b = some o → ((hp.push (PySem.W.kdv_tup us)).push (PySem.HandSPX.excO C hp.objs.size)).get? b = some o := fun b o e => Heap.get?_push_of_some _ (Heap.get?_push_of_some _ e)
  have hget : ((hp.push (PySem.W.kdv_tup us)).push (PySem.HandSPX.excO C hp.objs.size)).get? (hp.objs.size + 1) = some (PySem.HandSPX.excO C hp.objs.size) := by heap_get
  have I2 : Inv X pins σ (upd H1 (hp.objs.size + 1) (exo (hp.objs.size + 1) C none)) ⟨(hp.push (PySem.W.kdv_tup us)).push (PySem.HandSPX.excO C hp.objs.size), g, dr, tk, os⟩ :=
    I1.laid (t' := tk) (a := hp.objs.size + 1) (o := exo (hp.objs.size + 1) C none) (h' := (hp.push (PySem.W.kdv_tup us)).push (PySem.HandSPX.excO C hp.objs.size)) kk hsz (exo_ok hget)
  have r2 : Vals (V.ref (hp.objs.size + 1) :: (vs ++ dvs)) (Value.ref (hp.objs.size + 1) :: (us ++ ds)) := .cons rfl (r1.append hd)
  have hl : (Value.ref (hp.objs.size + 1) :: us ++ ds).length = ps.length := by
    have e := r2.length
    rw [F1.len _ _ _ _ hq] at e
    exact e.symm
  have hus : us.length ≤ sizeLine := by
    rw [← Paired.length r1, sizeLine_eq]
    omega
  refine wpAny_call (PySem.HandSPX.call_own F.excBase_ValueError (fun Y => PySem.HandSPX.refsVE_contains Y bm hbm) (I1.kIn _ _ hC) (PySem.W.looks_findIn I1.kIn iC) (fun self => PySem.W.bind_fn I1.kIn self tI) hus
    (codeAny_mono (F1.run _ X.stack _ _ ⟨Value.ref (hp.objs.size + 1) :: us, []⟩ (Value.ref (hp.objs.size + 1) :: (us ++ ds)) _ _ (fun _ _ _ => False) (hr.make C us []) (I2.env0.make C us []) (hb _ (Value.ref (hp.objs.size + 1) :: us) I2.kIn hl) r2 hq) fun r s' hq' => ?_))
  cases r with
  | error er => exact hx pins σ _ _ er s' I2 hq'
  | ok fl =>
    cases fl with
    | ret u =>
      obtain ⟨v, H2, os2, bare2, un2, hok2, rv, ev, d, fs, ea, ed, hd1, q2⟩ := hq'
      subst ev
      obtain ⟨h2, g2, d2, t2, os'⟩ := s'
      obtain ⟨t0, G, J, kG, ge, hoe, na⟩ := mk_end0 (X := X) (pins := pins) (σ := σ) (d2 := d2) (t2 := t2) I1 hsz kk un2 hok2 os2 bare2 ea ed hd1
      exact ⟨rv, .ref (hp.objs.size + 1), _, J.laidN (t' := t2) kG ge na (exq_ok hoe), rfl, q2⟩
    | next => exact False.elim hq'
    | brk => exact False.elim hq'
    | cont => exact False.elim hq'
end Dk
namespace Dk
open PySem PySem.Spec PyProof.Rows L2
section
variable {X : Cx} {CX : CXT} {k : Nat} {f : Addr} {fd : FuncData} {ps : List Str} {sp : Sp} {dvs : List V} {ds : List Value} {E : XK} {x : Str} {p pos : Pos}
end
section
variable {S : Type} [StK S] {X : Cx} {k : Nat} {f : Addr} {fd : FuncData} {ps : List Str} {dsp : DSp S} {x : Str} {p pos : Pos}
end
end Dk
namespace Dk
open PySem PySem.Spec PyProof.Rows L2
def tFld (K : Fg) (fl : Str) : TS := fun D σ H => ∃ (a C : Addr) (v : V), σ[0]? = some (some (.ref a)) ∧ σ[1]? = some (some v) ∧ OexC K C ∧ PySem.W.findIn K (.ref C) fl = some none ∧ H a = some (exo a C none) ∧
  ∀ dx, H dx = none → dx ≠ a → D.nx σ (upd (upd H dx (exd dx [(fl, v)])) a (exo a C (some dx)))
theorem pss_fld {X : Cx} {fl : Str} {p1 p2 p3 p4 p5 p6 p7 p8 p9 p10 : Pos} {j : Nat} {x m : Str}
    (e1 : PS X (.Expr (.Call (.Attribute (.Name x p1) "__init__" p2) [.Name "self" p3, .Constant (.str m) j p4] [] p5) p6) (tDrop (tVeI X.K (tCons (tVar 0) (tCons (tC (.str m)) tNil)))))
    (e2 : PS X (.Assign [.Attribute (.Name "self" p7) fl p8] (.Name fl p9) p10) (tOst X.K fl (tVar 0) (tVar 1))) :
    PSs X [.Expr (.Call (.Attribute (.Name x p1) "__init__" p2) [.Name "self" p3, .Constant (.str m) j p4] [] p5) p6, .Assign [.Attribute (.Name "self" p7) fl p8] (.Name fl p9) p10] (tFld X.K fl) :=
  pss_mono (pss_cons e1 (pss_one e2)) fun Z σ H ⟨a, C, v, s0, s1, T, hno, ha, q⟩ => by
    simp only [tSeq, tDrop, tVeI, tCons, tVar, tC, tNil, tOst]
    exact ⟨.ref a, s0, a, C, [.str m], rfl, by simp, T, ha, v, s1, .ref a, s0, a, C, rfl, T, hno, .inl ⟨ha, fun dx n ne => q dx n ne⟩⟩
structure FldC (K : Fg) (C : Addr) (fl : Str) : Prop where
  T : OexC K C
  no : PySem.W.findIn K (.ref C) fl = some none
def spFldC (C : Addr) (fl : Str) : Sp := fun vs H Q _ => ∃ (a : Addr) (v : V), vs = [.ref a, v] ∧ H a = some (exo a C none) ∧ ∀ dx, H dx = none → dx ≠ a → Q .non (upd (upd H dx (exd dx [(fl, v)])) a (exo a C (some dx)))
theorem fn_fld {P : Program} {w : World} {K : Fg} {mg : Str → Option Value} {base : Heap} {q fl : Str} {st : Stmt} {f C : Addr} {fd : FuncData} {k : Nat} (Fu : DfnM K "__init__" q st f fd) (Nc : FldC K C fl) (Sc : FnScope ["self", fl] ["self", fl] (defScope st))
    (hbody : ∀ (cdv : Value) (A : Around) (outer : List Env) (s : Shared) (H : Hp) (E : XK), PSs (cxOf CX0 P w K mg base ["self", fl] q (defScope st) f cdv A outer s H E) (defBody st) (tFld K fl)) : FnOk P w K mg base CX0 (k + 1) f fd ["self", fl] (spFldC C fl) := by
  obtain ⟨oc, od, dV, kV, doc, pm, an, cdv, ct, osl, rfl, lk, hcd, hD, _⟩ := Fu.F.ex
  refine fn_of lk hcd Sc (fun vs H Q E ⟨a, v, e, _⟩ => by rw [e]; rfl) fun A outer s H vs Q E hr ⟨a, v, e, ha, hq⟩ => ?_
  subst e
  exact ⟨_, hbody cdv A outer s H E, a, C, v, rfl, rfl, Nc.T, Nc.no, ha, fun dx n ne => hq dx n ne⟩
structure ErrC (K : Fg) (mg : Str → Option Value) (x : Str) (C f : Addr) (fl : Str) : Prop where
  nc : FldC K C fl
  iC : PySem.W.findIn K (.ref C) "__init__" = some (some (.ref f))
  tI : PySem.W.typeIn K (.ref f) = some (.type "function")
  mC : mg x = some (.ref C)
def errO : D → Option (Addr × Str × D)
  | .dict [(.tuple [.int z, .int C, .str f], x)] => if z = bigM then some (C.toNat, f, x) else none
  | _ => none
theorem errO_of (C : Addr) (f : Str) (x : D) : errO (errD C f x) = some (C, f, x) := by
  show (if bigM = bigM then some ((C : Int).toNat, f, x) else none) = some (C, f, x)
  rw [if_pos rfl]
  rfl
theorem errO_dr {K : Fg} {F : Hp} {d x : D} {C : Addr} {f : Str} {v : V} (h : errO d = some (C, f, x)) (r : DR K F d v) : ∃ a dx u, v = .ref a ∧ F a = some (exq a C dx) ∧ F dx = some (.xd [(f, u)]) ∧ DR K F x u := by
  unfold errO at h
  split at h
  · rename_i z c g y
    split at h
    · rename_i hz
      obtain ⟨a, h1, h2⟩ := DR.dictC_.mp r
      unfold DRd DRp at h2
      rcases h2.2 with ⟨e, _⟩ | ⟨C', f', dx, u, e, e1, e2, e3⟩
      · unfold refK at e
        cases e
      · unfold errK at e
        simp only [PyData.tuple.injEq, List.cons.injEq, PyData.int.injEq, PyData.str.injEq, and_true] at e
        obtain ⟨_, e4, e5⟩ := e
        subst e4 e5
        have hh := Option.some.inj h
        have g1 : (C' : Nat) = C := congrArg (fun z : Addr × Str × D => z.1) hh
        have g2 := congrArg (fun z : Addr × Str × D => z.2.1) hh
        have g3 := congrArg (fun z : Addr × Str × D => z.2.2) hh
        simp only at g2 g3
        subst g1 g2 g3
        exact ⟨a, dx, u, h1, e1, e2, e3⟩
    · cases h
  · cases h
section
variable {S : Type} [StK S] {X : Cx} {e : Expr} {u : OW S}
def dErr (C : Addr) (fl : Str) (t : OW S) : DW S := fun ρ P => t ρ fun k ρ1 => gets k.valD fun d => P (.val (errD C fl d)) ρ1
theorem ce_err {k : Nat} {x fl : Str} {C f : Addr} {fd : FuncData} {p pos : Pos} (O : XO X (k + 2)) (ec : ErrC X.K X.mg x C f fl)
    (F1 : FnOk X.prog X.w X.K X.mg X.base CX0 (k + 1) f fd ["self", fl] (spFldC C fl)) (hb : Binds X.K fd ["self", fl] []) (he : CO (S := S) X e u) (hg : Gl X x := by rfl) (hdb : (x == ("__debug__" : Str)) = false := by decide)
    (hs : starEach [e] X.env = (false, eval e X.env) :: starEach [] X.env := by rfl) (hpl : (backTo pos (starEach [] X.env)).any (·.1) = false := by rfl) : CE (S := S) X (.Call (.Name x p) [e] [] pos) (dErr C fl u) := by
  refine pe_mono (pe_oexQ ec.nc.T ec.iC ec.tI F1 O.room hb .nil pass0 hg ec.mC (ca_cons he ca_nil hs) hdb hs hpl) fun σ H Q h => ?_
  obtain ⟨B, pa, τ, F, ρ, θ, P, R, hl, h, q⟩ := toE h
  refine ⟨B, pa, τ, F, ρ, θ, fun ks ρ1 => match ks with
    | [kk] => gets kk.valD fun d => P (.val (errD C fl d)) ρ1
    | _ => False, R, hl, h, fun ks ρ1 vs H1 F1' h1 hl1 hk R1 s1 => ?_⟩
  match ks, vs, hk, h1, R1 with
  | [kk], [v], _, h1, R1 =>
    obtain ⟨d, ed, h1⟩ := gets_elim h1
    have ed := valD_some ed
    subst ed
    refine ⟨by simp, fun a ha => ⟨a, v, by simp, upd_same, fun dx n ne => ⟨rfl, dx, [(fl, v)], upd_same, by rw [upd_ne ne, upd_same], ?_, ?_⟩⟩⟩
    · rw [upd_ne ne] at n; exact n
    · have hdx : H1 dx = none := by rw [upd_ne ne] at n; exact n
      have eH : upd (upd (del (upd (upd (upd H1 a (exo a C none)) dx (exd dx [(fl, v)])) a (exo a C (some dx))) a) dx (.xd [(fl, v)])) a (exq a C dx) = upd (upd H1 dx (.xd [(fl, v)])) a (exq a C dx) := by
        funext b
        by_cases y : b = a
        · rw [y, upd_same, upd_same]
        · rw [upd_ne y, upd_ne y]
          by_cases z : b = dx
          · rw [z, upd_same, upd_same]
          · rw [upd_ne z, upd_ne z, del_ne y, upd_ne y, upd_ne z, upd_ne y]
      rw [eH]
      have R1' : Rel X.K B pa (σ ++ τ ++ [some v]) H1 F1' (ρ1.sl ++ θ ++ [.val d]) ρ1.pn := R1
      obtain ⟨⟨v', e', hd⟩, _⟩ := Rel.last (s := .val d) R1'
      cases e'
      have R2 := R1'.pop
      obtain ⟨n1, n2, n3⟩ := R2.hnone hdx
      have step : ∀ {G F2 : Hp} {b : Addr} {o : HO}, Rel X.K B pa (σ ++ τ) G F2 (ρ1.sl ++ θ) ρ1.pn → G b = none → (∀ xs, o ≠ .lst xs ∧ (∀ y, o ≠ .frz y (.lst xs)) ∧ o ≠ .tup xs ∧ ∀ y, o ≠ .frz y (.tup xs)) → Rel X.K B pa (σ ++ τ) (upd G b o) (upd F2 b o) (ρ1.sl ++ θ) ρ1.pn ∧ Le F2 (upd F2 b o) := fun {G F2 b o} RG hb no => by
        obtain ⟨m1, _⟩ := RG.hnone hb
        have hF : Le F2 (upd F2 b o) := le_upd m1
        refine ⟨RG.grow (H' := upd G b o) (le_upd hb) hF (fun c u e => by
          by_cases z : c = b
          · rw [z, upd_same] at e ⊢; exact e
          · rw [upd_ne z] at e ⊢; exact RG.fh _ _ e) (fun c u e => by
          by_cases z : c = b
          · exact .inr (by rw [z]; exact hb)
          · rw [upd_ne z] at e; exact .inl e) (fun a xs q => by
          by_cases e : a = b
          · subst e
            rw [upd_same] at q
            rcases q with q | ⟨o', q⟩ | q | ⟨o', q⟩
            · exact absurd (Option.some.inj q) (no xs).1
            · exact absurd (Option.some.inj q) ((no xs).2.1 o')
            · exact absurd (Option.some.inj q) (no xs).2.2.1
            · exact absurd (Option.some.inj q) ((no xs).2.2.2 o')
          · rw [upd_ne e] at q
            exact RG.sz a xs q), hF⟩
      obtain ⟨R3, l3⟩ := step R2 hdx (o := .xd [(fl, v)]) fun xs => ⟨nofun, fun _ => nofun, nofun, fun _ => nofun⟩
      have hna : upd H1 dx (HO.xd [(fl, v)]) a = none := by rw [upd_ne (Ne.symm ne)]; exact ha
      obtain ⟨R4, l4⟩ := step R3 hna (o := exq a C dx) fun xs => ⟨nofun, fun _ => nofun, nofun, fun _ => nofun⟩
      refine q (.val (errD C fl d)) ρ1 (.ref a) _ _ h1 hl1 (R4.pushVal (DR.err_.mpr ⟨a, dx, v, rfl, upd_same, ?_, DR.mono (l3.trans l4) _ _ hd⟩))
      rw [upd_ne ne, upd_same]
end
end Dk
namespace Dk
open PySem PySem.Spec PyProof.Rows L2
def KtOk (K : Fg) (kt : Value → Addr → Option Bool) : Prop := ∀ cv C b, kt cv C = some b → ExcC K C ∧ PySem.W.kitOne K (.ref C) cv = some b
def XkOk (K : Fg) (xk : Addr → Str → Bool) : Prop := ∀ C n, xk C n = true → XfC K C ∧ PySem.W.findIn K (.ref C) n = some none
section
variable {S : Type} [StK S] {X : Cx} {a : Expr} {t : OW S} {p p2 p3 p4 pos : Pos}
def dIsE (kt : Value → Addr → Option Bool) (cv : Value) (t : OW S) : DW S := fun ρ P => t ρ fun k ρ1 => gets ((k.rd ρ1).bind errO) fun c => gets (kt cv c.1) fun b => P (.val (.bool b)) ρ1
theorem errO_list {xs : List D} : errO (.list xs) = none := rfl
theorem isE_step {kt : Value → Addr → Option Bool} {cv : Value} {c : V} {σ : L2.St} {H : Hp} {Q : VK} (hk : KtOk X.K kt) (hc : ∀ u, RelV c u → u = cv) (h : liftO X.K (tmpD (dIsE kt cv t)) σ H Q) : liftO X.K t σ H fun x H1 => rIsQ X.K [x, c] H1 Q := by
  obtain ⟨B, pa, τ, F, ρ, θ, P, R, hl, h, q⟩ := toE h
  refine ⟨B, pa, τ, F, ρ, θ, _, R, hl, h, fun k1 ρ1 v1 H1 F1 h1 hl1 R1 s1 => ?_⟩
  obtain ⟨cc, e1, h1⟩ := gets_elim h1
  obtain ⟨b, e2, h2⟩ := gets_elim h1
  obtain ⟨d, e3, e4⟩ := Option.bind_eq_some_iff.mp e1
  have hτ : τ.length = θ.length := by have := R1.pop.len; simp at this; omega
  have rd := read_at (τ := τ ++ [some v1]) (θ := θ ++ [k1.sl]) (by simpa only [List.append_assoc] using R1) hl1 τ.length (app_last _ _) (by rw [hτ]; exact app_last _ _) s1 e3
  have dr : DR X.K F1 d v1 := by
    rcases rd with z | ⟨ds', a', vs', z, _⟩
    · exact z
    · rw [z, errO_list] at e4
      cases e4
  obtain ⟨C, f, x⟩ := cc
  obtain ⟨a, dx, u, rfl, f1, f2, f3⟩ := errO_dr e4 dr
  obtain ⟨k1', k2'⟩ := hk cv C b e2
  exact ⟨a, C, dx, _, c, cv, b, rfl, R1.fh _ _ f1, R1.fh _ _ f2, k1', hc, k2', q (.val (.bool b)) ρ1 (.bl b) H1 F1 h2 hl1 (R1.pop.pushVal (DR.bl_.mpr rfl))⟩
theorem ce_isE {kt : Value → Addr → Option Bool} {x : Str} {C : Addr} (hk : KtOk X.K kt) (ha : CO (S := S) X a t) (hm : X.mg "isinstance" = none) (hC : X.mg x = some (.ref C)) (hg : Gl X "isinstance" := by rfl) (hg2 : Gl X x := by rfl) (hd : (x == ("__debug__" : Str)) = false := by decide)
    (hs : starEach [a, .Name x p2] X.env = (false, eval a X.env) :: starEach [.Name x p2] X.env := by rfl) :
    CE (S := S) X (.Call (.Name "isinstance" p) [a, .Name x p2] [] pos) (dIsE kt (.ref C) t) := by
  have h2 : PE X (.Name x p2) (tC (.ref C)) := pe_glob hg2 hC rfl hd
  exact pe_mono (pe_callB call_isQ hg hm b_isinstance (pa_cons ha (pa_cons h2 pa_nil) hs) (he := hs)) fun σ H Q h => isE_step hk (fun u r => r) h
theorem ce_isEB {kt : Value → Addr → Option Bool} (n : String) {x : Str} (hk : KtOk X.K kt) (ha : CO (S := S) X a t) (hm : X.mg "isinstance" = none) (hT : X.mg x = none) (hb : bootBuiltins x = some (.type n)) (hg : Gl X "isinstance" := by rfl) (hg2 : Gl X x := by rfl) (hn : x ≠ "__name__" := by decide) (hd : (x == ("__debug__" : Str)) = false := by decide)
    (hs : starEach [a, .Name x p2] X.env = (false, eval a X.env) :: starEach [.Name x p2] X.env := by rfl) :
    CE (S := S) X (.Call (.Name "isinstance" p) [a, .Name x p2] [] pos) (dIsE kt (.type n) t) := by
  have h2 : PE X (.Name x p2) (tC (.ty n)) := pe_bltn hg2 hT hb rfl hn hd
  exact pe_mono (pe_callB call_isQ hg hm b_isinstance (pa_cons ha (pa_cons h2 pa_nil) hs) (he := hs)) fun σ H Q h => isE_step hk (fun u r => r) h
def dFldE (xk : Addr → Str → Bool) (n : Str) (t : OW S) : DW S := fun ρ P => t ρ fun k ρ1 => gets ((k.rd ρ1).bind errO) fun c => c.2.1 = n ∧ xk c.1 n = true ∧ P (.val c.2.2) ρ1
theorem ce_fldE {xk : Addr → Str → Bool} {n : Str} (hk : XkOk X.K xk) (ha : CO (S := S) X a t) (hb : attributeBase a n X.env (eval a X.env) = eval a X.env := by rfl) : CE (S := S) X (.Attribute a n pos) (dFldE xk n t) := by
  refine pe_mono (pe_xq ha hb) fun σ H Q h => ?_
  obtain ⟨B, pa, τ, F, ρ, θ, P, R, hl, h, q⟩ := toE h
  refine ⟨B, pa, τ, F, ρ, θ, _, R, hl, h, fun k1 ρ1 v1 H1 F1 h1 hl1 R1 s1 => ?_⟩
  obtain ⟨cc, e1, h1⟩ := gets_elim h1
  obtain ⟨g1, g2, h2⟩ := h1
  obtain ⟨d, e3, e4⟩ := Option.bind_eq_some_iff.mp e1
  have hτ : τ.length = θ.length := by have := R1.pop.len; simp at this; omega
  have rd := read_at (τ := τ ++ [some v1]) (θ := θ ++ [k1.sl]) (by simpa only [List.append_assoc] using R1) hl1 τ.length (app_last _ _) (by rw [hτ]; exact app_last _ _) s1 e3
  have dr : DR X.K F1 d v1 := by
    rcases rd with z | ⟨ds', a', vs', z, _⟩
    · exact z
    · rw [z, errO_list] at e4
      cases e4
  obtain ⟨C, f, x⟩ := cc
  have g1 : f = n := g1
  subst g1
  obtain ⟨a, dx, u, rfl, f1, f2, f3⟩ := errO_dr e4 dr
  obtain ⟨k1', k2'⟩ := hk C f g2
  exact ⟨a, C, dx, _, u, rfl, R1.fh _ _ f1, R1.fh _ _ f2, k1', k2', by simp, q (.val x) ρ1 u H1 F1 h2 hl1 (R1.pop.pushVal f3)⟩
theorem pe_exc0 {C : Addr} {bmB : List Value} {B newId initId : String} {x : Str} (F : ExcBaseFacts B newId initId bmB) (q : PySem.W.excIn X.K C bmB newId = true) (gC : X.mg x = some (.ref C)) (kC : PySem.W.keepIn X.K (.ref C) = true) (hg : Gl X x) (hdb : (x == ("__debug__" : Str)) = false := by decide) :
    PE X (.Call (.Name x p) [] [] pos) (fun σ H Q => ∀ a, H a = none → Q (.ref a) (upd H a (ExO (.ref C) a))) := by
  refine ⟨fun pins s σ H Q I h => ?_⟩
  refine wpAny_Call_Name_kw (ld_glob I hg gC ?_ hdb)
  refine PySem.W.callWith_K0 I.kIn kC ?_
  show wpAny _ _ (call (.ref C) []) _ _ _
  obtain ⟨bm, N, nm, qn, bs, hdct, sn, sub, ab, col, dd, k0, k1, k2, k3, k5, mN, hC, hN, hni, T⟩ := exc_obj I.kIn q
  refine wpAny_call_exc_subT F T hC hN hni (fun h' a hm => ?_) (by show 0 ≤ sizeLine; exact Nat.zero_le _)
  have hn : H a = none := I.hok.gone hm.new
  obtain ⟨t, ht, _, _⟩ := hm.there
  exact ⟨.ref a, upd H a (ExO (.ref C) a), I.laidN hm.keeps hm.new hn (exO_ok ht ⟨rfl, rfl⟩ rfl rfl rfl (show 4 < 6 by decide)), rfl, h a hn⟩
def rIsO (K : Fg) : List V → Hp → VK → Prop := fun xs H Q => ∃ (a C : Addr) (c : V) (cv : Value) (b : Bool), xs = [.ref a, c] ∧ H a = some (ExO (.ref C) a) ∧ ExcC K C ∧ (∀ u, RelV c u → u = cv) ∧ PySem.W.kitOne K (.ref C) cv = some b ∧ Q (.bl b) H
theorem call_isO : CallR X (.builtin "isinstance") (rIsO X.K) := by
  intro pins s σ H xs us Q I r h
  obtain ⟨a, C, c, cv, b, rfl, ha, ec, hcv, e, q⟩ := h
  cases r with
  | cons rx rr =>
    cases rr with
    | cons rt rr =>
      cases rr
      cases rx
      have ev := hcv _ rt
      subst ev
      obtain ⟨⟨oe, vs, ho, hz, hd, _⟩, _, _⟩ := I.hok a _ ha
      have J : PySem.W.InstAt s.heap a oe C none := by
        obtain ⟨oc, od, oda, osl⟩ := oe
        obtain ⟨h1, h2⟩ := hz
        dsimp only at h1 h2 hd
        subst h1 h2 hd
        exact ⟨ho, rfl, rfl, trivial⟩
      exact PySem.W.kia_one (kitx_excD ec) I.kIn ⟨oe, none, J⟩ e (fun z => nomatch z) fun tk => ⟨.bl b, H, I.kept (t' := tk) fun _ _ z => z, rfl, q⟩
def dNewIs (b : Bool) : DW S := fun ρ P => P (.val (.bool b)) ρ
theorem ce_newIs {C : Addr} {bmB : List Value} {B newId initId n : String} {b : Bool} {x y : Str} (F : ExcBaseFacts B newId initId bmB) (q : PySem.W.excIn X.K C bmB newId = true) (gC : X.mg x = some (.ref C)) (kC : PySem.W.keepIn X.K (.ref C) = true) (ec : ExcC X.K C) (ek : PySem.W.kitOne X.K (.ref C) (.type n) = some b)
    (hm : X.mg "isinstance" = none) (hT : X.mg y = none) (hb : bootBuiltins y = some (.type n)) (hg : Gl X x := by rfl) (hg1 : Gl X "isinstance" := by rfl) (hg2 : Gl X y := by rfl) (hn : y ≠ "__name__" := by decide) (hd : (y == ("__debug__" : Str)) = false := by decide) (hdb : (x == ("__debug__" : Str)) = false := by decide)
    (hs : starEach [.Call (.Name x p3) [] [] p4, .Name y p2] X.env = (false, eval (.Call (.Name x p3) [] [] p4) X.env) :: starEach [.Name y p2] X.env := by rfl) :
    CE (S := S) X (.Call (.Name "isinstance" p) [.Call (.Name x p3) [] [] p4, .Name y p2] [] pos) (dNewIs b) := by
  have h2 : PE X (.Name y p2) (tC (.ty n)) := pe_bltn hg2 hT hb rfl hn hd
  refine pe_mono (pe_callB call_isO hg1 hm b_isinstance (pa_cons (pe_exc0 F q gC kC hg hdb) (pa_cons h2 pa_nil) hs) (he := hs)) fun σ H Q h => ?_
  obtain ⟨B', pa, τ, F', ρ, θ, P, R, hl, h, q'⟩ := toE h
  refine fun a ha => ⟨a, C, .ty n, _, b, rfl, upd_same, ec, fun u r => r, ek, ?_⟩
  have R2 := R.grow (H' := upd H a (ExO (.ref C) a)) (le_upd ha) (Le.refl _) (R.fh.trans (le_upd ha)) (fun c u e => .inl e) (fun c xs z => by
    by_cases e : c = a
    · subst e
      rw [upd_same] at z
      rcases z with z | ⟨o', z⟩ | z | ⟨o', z⟩
      · exact absurd (Option.some.inj z) nofun
      · exact absurd (Option.some.inj z) nofun
      · exact absurd (Option.some.inj z) nofun
      · exact absurd (Option.some.inj z) nofun
    · rw [upd_ne e] at z
      exact R.sz c xs z)
  exact q' (.val (.bool b)) ρ (.bl b) _ _ h hl (R2.pushVal (DR.bl_.mpr rfl))
variable {s0 : Sl} {l0 : List Sl} {pn : S} {P : Rs → En S → Prop} {kt : Value → Addr → Option Bool} {xk : Addr → Str → Bool} {cv : Value} {C : Addr} {f n : Str} {b : Bool}
@[simp↓] theorem z_dErr : dErr C f t ⟨s0 :: l0, pn⟩ P = t ⟨s0 :: l0, pn⟩ fun k ρ1 => gets k.valD fun d => P (.val (errD C f d)) ρ1 := rfl
@[simp↓] theorem z_dIsE : dIsE kt cv t ⟨s0 :: l0, pn⟩ P = t ⟨s0 :: l0, pn⟩ fun k ρ1 => gets (k.rd ρ1) fun d => gets (errO d) fun c => gets (kt cv c.1) fun b => P (.val (.bool b)) ρ1 := by
  show t _ _ = t _ _
  congr 1
  funext k ρ1
  exact g_bind
@[simp↓] theorem z_dFldE : dFldE xk n t ⟨s0 :: l0, pn⟩ P = t ⟨s0 :: l0, pn⟩ fun k ρ1 => gets (k.rd ρ1) fun d => gets (errO d) fun c => c.2.1 = n ∧ xk c.1 n = true ∧ P (.val c.2.2) ρ1 := by
  show t _ _ = t _ _
  congr 1
  funext k ρ1
  exact g_bind
@[simp↓] theorem z_dNewIs : dNewIs b ⟨s0 :: l0, pn⟩ P = P (.val (.bool b)) ⟨s0 :: l0, pn⟩ := rfl
@[simp↓] theorem g_errO {x : D} {k : Addr × Str × D → Prop} : gets (errO (errD C f x)) k = k (C, f, x) := by rw [errO_of]; rfl
end
end Dk
namespace Dk
open PySem PySem.Spec PyProof.Rows L2
def ecB (K : Fg) (D : Addr) : Bool := decide (PySem.W.findIn K (.ref D) "__getattribute__" = some (some (.builtin "BaseException.__getattribute__"))) && (decide (PySem.W.findIn K (.ref D) "__getattr__" = some none) && (decide (PySem.W.subIn K (.ref D) (.type "BaseException") = some true) && (PySem.W.hasDictIn K D &&
  (decide (PySem.W.findIn K (.ref D) "__class__" = some (some (.builtin "object.__class__"))) && (decide (PySem.W.specialIn K (.builtin "object.__class__") "__get__" = some (some (.builtin "getset_descriptor.__get__"))) && (decide (PySem.W.takesIn K (.builtin "object.__class__") = some true) && decide (PySem.W.mroIn K D (.type "object") = some true)))))))
theorem ecB_ok {K : Fg} {D : Addr} (h : ecB K D = true) : ExcC K D := by
  unfold ecB at h
  simp only [Bool.and_eq_true, decide_eq_true_eq] at h
  obtain ⟨h1, h2, h3, h4, h5, h6, h7, h8⟩ := h
  exact ⟨h1, h2, h3, h4, h5, h6, h7, h8⟩
def ktK (K : Fg) : Value → Addr → Option Bool := fun cv C => if ecB K C = true then PySem.W.kitOne K (.ref C) cv else none
theorem ktK_ok (K : Fg) : KtOk K (ktK K) := fun cv C b h => by
  unfold ktK at h
  split at h
  · rename_i e
    exact ⟨ecB_ok e, h⟩
  · cases h
def xkK (K : Fg) : Addr → Str → Bool := fun C n => xfB K C && decide (PySem.W.findIn K (.ref C) n = some none)
theorem xkK_ok (K : Fg) : XkOk K (xkK K) := fun C n h => by
  unfold xkK at h
  rw [Bool.and_eq_true, decide_eq_true_eq] at h
  exact ⟨xfB_ok h.1, h.2⟩
def erB (K : Fg) (C f : Addr) (fl : Str) : Bool := oexB K C && (decide (PySem.W.findIn K (.ref C) "__setattr__" = some (some (.builtin "object.__setattr__"))) && (decide (PySem.W.subIn K (.ref C) (.type "BaseException") = some true) && (decide (PySem.W.typeIn K (.ref C) = some (.type "type")) && (PySem.W.keepIn K (.ref C) &&
  (decide (PySem.W.findIn K (.ref C) fl = some none) && (decide (PySem.W.findIn K (.ref C) "__init__" = some (some (.ref f))) && decide (PySem.W.typeIn K (.ref f) = some (.type "function"))))))))
theorem erB_ok {K : Fg} {mg : Str → Option Value} {x fl : Str} {C f : Addr} (h : erB K C f fl = true) (m : mg x = some (.ref C)) : ErrC K mg x C f fl := by
  unfold erB at h
  simp only [Bool.and_eq_true, decide_eq_true_eq] at h
  obtain ⟨h1, h2, h3, h4, h5, h6, h7, h8⟩ := h
  exact ⟨⟨⟨oexB_ok h1, h2, h3, h4, h5⟩, h6⟩, h7, h8, m⟩
structure Ect where
  c1 : Addr
  c2 : Addr
  c3 : Addr
  c4 : Addr
  cB : Addr
  kt : Value → Addr → Option Bool
  xk : Addr → Str → Bool
abbrev bmV : List Value := [.type "ValueError", .type "Exception", .type "BaseException", .type "object"]
structure ER (K : Fg) (mg : Str → Option Value) (ec : Ect) (f1 f2 f3 f4 : Addr) : Prop where
  e1 : ErrC K mg "TooMany" ec.c1 f1 "node"
  e2 : ErrC K mg "InvalidMix" ec.c2 f2 "value"
  e3 : ErrC K mg "InvalidChange" ec.c3 f3 "value"
  e4 : ErrC K mg "UnknownMark" ec.c4 f4 "number"
  kt : KtOk K ec.kt
  xk : XkOk K ec.xk
  mB : mg "PriceplansError" = some (.ref ec.cB)
  bi : BaseI K ec.cB
  exB : PySem.W.excIn K ec.cB bmV "ValueError.__new__" = true
  kB : PySem.W.keepIn K (.ref ec.cB) = true
  ecB : ExcC K ec.cB
  ekB : PySem.W.kitOne K (.ref ec.cB) (.type "ValueError") = some true
  vE : mg "ValueError" = none
structure ErP (ec : Ect) : Prop where
  a1 : ec.kt (.ref ec.c1) ec.c1 = some true ∧ ec.kt (.ref ec.c2) ec.c1 = some false ∧ ec.kt (.ref ec.c3) ec.c1 = some false ∧ ec.kt (.ref ec.c4) ec.c1 = some false
  a2 : ec.kt (.ref ec.c1) ec.c2 = some false ∧ ec.kt (.ref ec.c2) ec.c2 = some true ∧ ec.kt (.ref ec.c3) ec.c2 = some false ∧ ec.kt (.ref ec.c4) ec.c2 = some false
  a3 : ec.kt (.ref ec.c1) ec.c3 = some false ∧ ec.kt (.ref ec.c2) ec.c3 = some false ∧ ec.kt (.ref ec.c3) ec.c3 = some true ∧ ec.kt (.ref ec.c4) ec.c3 = some false
  a4 : ec.kt (.ref ec.c1) ec.c4 = some false ∧ ec.kt (.ref ec.c2) ec.c4 = some false ∧ ec.kt (.ref ec.c3) ec.c4 = some false ∧ ec.kt (.ref ec.c4) ec.c4 = some true
  b : ec.kt (.ref ec.cB) ec.c1 = some true ∧ ec.kt (.ref ec.cB) ec.c2 = some true ∧ ec.kt (.ref ec.cB) ec.c3 = some true ∧ ec.kt (.ref ec.cB) ec.c4 = some true
  v : ec.kt (.type "ValueError") ec.c1 = some true ∧ ec.kt (.type "ValueError") ec.c2 = some true ∧ ec.kt (.type "ValueError") ec.c3 = some true ∧ ec.kt (.type "ValueError") ec.c4 = some true
  x : ec.xk ec.c1 "node" = true ∧ ec.xk ec.c2 "value" = true ∧ ec.xk ec.c3 "value" = true ∧ ec.xk ec.c4 "number" = true
def ectK (K : Fg) : Ect := ⟨He.ga K "TooMany", He.ga K "InvalidMix", He.ga K "InvalidChange", He.ga K "UnknownMark", He.ga K "PriceplansError", ktK K, xkK K⟩
def erpB (ec : Ect) : Bool := decide (ec.kt (.ref ec.c1) ec.c1 = some true ∧ ec.kt (.ref ec.c2) ec.c1 = some false ∧ ec.kt (.ref ec.c3) ec.c1 = some false ∧ ec.kt (.ref ec.c4) ec.c1 = some false) &&
  (decide (ec.kt (.ref ec.c1) ec.c2 = some false ∧ ec.kt (.ref ec.c2) ec.c2 = some true ∧ ec.kt (.ref ec.c3) ec.c2 = some false ∧ ec.kt (.ref ec.c4) ec.c2 = some false) &&
  (decide (ec.kt (.ref ec.c1) ec.c3 = some false ∧ ec.kt (.ref ec.c2) ec.c3 = some false ∧ ec.kt (.ref ec.c3) ec.c3 = some true ∧ ec.kt (.ref ec.c4) ec.c3 = some false) &&
  (decide (ec.kt (.ref ec.c1) ec.c4 = some false ∧ ec.kt (.ref ec.c2) ec.c4 = some false ∧ ec.kt (.ref ec.c3) ec.c4 = some false ∧ ec.kt (.ref ec.c4) ec.c4 = some true) &&
  (decide (ec.kt (.ref ec.cB) ec.c1 = some true ∧ ec.kt (.ref ec.cB) ec.c2 = some true ∧ ec.kt (.ref ec.cB) ec.c3 = some true ∧ ec.kt (.ref ec.cB) ec.c4 = some true) &&
  (decide (ec.kt (.type "ValueError") ec.c1 = some true ∧ ec.kt (.type "ValueError") ec.c2 = some true ∧ ec.kt (.type "ValueError") ec.c3 = some true ∧ ec.kt (.type "ValueError") ec.c4 = some true) &&
  decide (ec.xk ec.c1 "node" = true ∧ ec.xk ec.c2 "value" = true ∧ ec.xk ec.c3 "value" = true ∧ ec.xk ec.c4 "number" = true))))))
theorem erpB_ok {ec : Ect} (h : erpB ec = true) : ErP ec := by
  unfold erpB at h
  rw [Bool.and_eq_true, Bool.and_eq_true, Bool.and_eq_true, Bool.and_eq_true, Bool.and_eq_true, Bool.and_eq_true] at h
  obtain ⟨h1, h2, h3, h4, h5, h6, h7⟩ := h
  exact ⟨of_decide_eq_true h1, of_decide_eq_true h2, of_decide_eq_true h3, of_decide_eq_true h4, of_decide_eq_true h5, of_decide_eq_true h6, of_decide_eq_true h7⟩
def exER (K : Fg) : Bool := erB K (He.ga K "TooMany") (He.ma K (He.ga K "TooMany") "__init__") "node" && (erB K (He.ga K "InvalidMix") (He.ma K (He.ga K "InvalidMix") "__init__") "value" && (erB K (He.ga K "InvalidChange") (He.ma K (He.ga K "InvalidChange") "__init__") "value" && (erB K (He.ga K "UnknownMark") (He.ma K (He.ga K "UnknownMark") "__init__") "number" &&
  (baseB K (He.ga K "PriceplansError") && (PySem.W.excIn K (He.ga K "PriceplansError") bmV "ValueError.__new__" && (PySem.W.keepIn K (.ref (He.ga K "PriceplansError")) && (ecB K (He.ga K "PriceplansError") && (decide (PySem.W.kitOne K (.ref (He.ga K "PriceplansError")) (.type "ValueError") = some true) && erpB (ectK K)))))))))
theorem exER_ok {K : Fg} {mg : Str → Option Value} (h : exER K = true) (m1 : mg "TooMany" = some (.ref (He.ga K "TooMany"))) (m2 : mg "InvalidMix" = some (.ref (He.ga K "InvalidMix"))) (m3 : mg "InvalidChange" = some (.ref (He.ga K "InvalidChange"))) (m4 : mg "UnknownMark" = some (.ref (He.ga K "UnknownMark")))
    (mB : mg "PriceplansError" = some (.ref (He.ga K "PriceplansError"))) (vE : mg "ValueError" = none) :
    ER K mg (ectK K) (He.ma K (He.ga K "TooMany") "__init__") (He.ma K (He.ga K "InvalidMix") "__init__") (He.ma K (He.ga K "InvalidChange") "__init__") (He.ma K (He.ga K "UnknownMark") "__init__") ∧ ErP (ectK K) := by
  unfold exER at h
  simp only [Bool.and_eq_true, decide_eq_true_eq] at h
  obtain ⟨h1, h2, h3, h4, h5, h6, h7, h8, h9, h10⟩ := h
  exact ⟨⟨erB_ok h1 m1, erB_ok h2 m2, erB_ok h3 m3, erB_ok h4 m4, ktK_ok K, xkK_ok K, mB, baseB_ok h5, h6, h7, ecB_ok h8, h9, vE⟩, erpB_ok h10⟩
structure ErF (P : Program) (w : World) (K : Fg) (mg : Str → Option Value) (base : Heap) (ec : Ect) (f1 f2 f3 f4 : Addr) (fd1 fd2 fd3 fd4 : FuncData) : Prop where
  i1 : ∀ k, FnOk P w K mg base CX0 (k + 1) f1 fd1 ["self", "node"] (spFldC ec.c1 "node")
  i2 : ∀ k, FnOk P w K mg base CX0 (k + 1) f2 fd2 ["self", "value"] (spFldC ec.c2 "value")
  i3 : ∀ k, FnOk P w K mg base CX0 (k + 1) f3 fd3 ["self", "value"] (spFldC ec.c3 "value")
  i4 : ∀ k, FnOk P w K mg base CX0 (k + 1) f4 fd4 ["self", "number"] (spFldC ec.c4 "number")
  b1 : Binds K fd1 ["self", "node"] []
  b2 : Binds K fd2 ["self", "value"] []
  b3 : Binds K fd3 ["self", "value"] []
  b4 : Binds K fd4 ["self", "number"] []
end Dk
namespace K02
open PySem PySem.Spec PyProof.Rows L2 Dk
def top (i : Nat) : Stmt := PySem.Challenge.pw_priceplans_k02_errors_by_hand.main.body.getD i (.Pass ⟨0, 0, 0, 0⟩)
abbrev S_q3 : Stmt := ((C8.clsBody (top 2)).getD 0 (.Pass ⟨0, 0, 0, 0⟩))
abbrev P_q3 : List Str := ["self", "node"]
abbrev S_q2 : Stmt := ((C8.clsBody (top 3)).getD 0 (.Pass ⟨0, 0, 0, 0⟩))
abbrev P_q2 : List Str := ["self", "value"]
abbrev S_q0 : Stmt := ((C8.clsBody (top 4)).getD 0 (.Pass ⟨0, 0, 0, 0⟩))
abbrev P_q0 : List Str := ["self", "value"]
abbrev S_q1 : Stmt := ((C8.clsBody (top 5)).getD 0 (.Pass ⟨0, 0, 0, 0⟩))
abbrev P_q1 : List Str := ["self", "number"]
abbrev S_q9 : Stmt := top 7
abbrev P_q9 : List Str := ["_law_script"]
abbrev N_q9 : List Str := ["_law_script", "_law_cells", "_law_k", "_law_cell"]
abbrev S_q5 : Stmt := top 8
abbrev P_q5 : List Str := ["_law_cell", "_law_at"]
abbrev N_q5 : List Str := ["_law_cell", "_law_at", "_law_primes", "_law_one", "_law_two", "_law_three"]
abbrev S_q8 : Stmt := top 9
abbrev P_q8 : List Str := ["_law_pen", "_law_amount"]
abbrev N_q8 : List Str := ["_law_pen", "_law_amount", "_law_found", "_law_at", "_law_cell"]
abbrev S_q6 : Stmt := top 10
abbrev P_q6 : List Str := ["_law_pen", "_law_some"]
abbrev N_q6 : List Str := ["_law_pen", "_law_some"]
abbrev S_q10 : Stmt := top 11
abbrev P_q10 : List Str := ["_law_pen"]
abbrev N_q10 : List Str := ["_law_pen", "_law_some"]
abbrev S_q4 : Stmt := top 12
abbrev P_q4 : List Str := ["_law_number", "_law_odd_here"]
abbrev N_q4 : List Str := ["_law_number", "_law_odd_here"]
abbrev S_q7 : Stmt := top 13
abbrev P_q7 : List Str := ["_law_error"]
abbrev N_q7 : List Str := ["_law_error", "_law_some"]
abbrev S_law : Stmt := top 14
abbrev P_law : List Str := ["_law_script"]
abbrev N_law : List Str := ["_law_script", "_law_pen", "_law_turn", "_law_numbers", "_law_given", "_law_texts", "_law_rows", "_law_errors", "_law_text", "_law_told", "_law_again", "_law_k", "_law_error", "_law_number", "_law_odd_here", "_law_index"]
def dd_q9 : He.DefD := ⟨("_law_open", none), "_law_open", "_law_open", defArgs S_q9, defBody S_q9, defScope S_q9, [], []⟩
def dd_q5 : He.DefD := ⟨("_law_spread", none), "_law_spread", "_law_spread", defArgs S_q5, defBody S_q5, defScope S_q5, [], []⟩
def dd_q8 : He.DefD := ⟨("_law_take", none), "_law_take", "_law_take", defArgs S_q8, defBody S_q8, defScope S_q8, [], []⟩
def dd_q6 : He.DefD := ⟨("_law_one_of", none), "_law_one_of", "_law_one_of", defArgs S_q6, defBody S_q6, defScope S_q6, [], []⟩
def dd_q10 : He.DefD := ⟨("_law_odd", none), "_law_odd", "_law_odd", defArgs S_q10, defBody S_q10, defScope S_q10, [], []⟩
def dd_q4 : He.DefD := ⟨("_law_all_of", none), "_law_all_of", "_law_all_of", defArgs S_q4, defBody S_q4, defScope S_q4, [], []⟩
def dd_q7 : He.DefD := ⟨("_law_kinds", none), "_law_kinds", "_law_kinds", defArgs S_q7, defBody S_q7, defScope S_q7, [], []⟩
def dd_law : He.DefD := ⟨("law", none), "law", "law", defArgs S_law, defBody S_law, defScope S_law, [], []⟩
def dd_q3 : He.DefD := ⟨("TooMany", some "__init__"), "__init__", "TooMany.__init__", defArgs S_q3, defBody S_q3, defScope S_q3, [], []⟩
def dd_q2 : He.DefD := ⟨("InvalidMix", some "__init__"), "__init__", "InvalidMix.__init__", defArgs S_q2, defBody S_q2, defScope S_q2, [], []⟩
def dd_q0 : He.DefD := ⟨("InvalidChange", some "__init__"), "__init__", "InvalidChange.__init__", defArgs S_q0, defBody S_q0, defScope S_q0, [], []⟩
def dd_q1 : He.DefD := ⟨("UnknownMark", some "__init__"), "__init__", "UnknownMark.__init__", defArgs S_q1, defBody S_q1, defScope S_q1, [], []⟩
def fn : List He.DefD := [dd_q9, dd_q5, dd_q8, dd_q6, dd_q10, dd_q4, dd_q7, dd_law, dd_q3, dd_q2, dd_q0, dd_q1]
def gl : List Str := (["_law_open", "_law_spread", "_law_take", "_law_one_of", "_law_odd", "_law_all_of", "_law_kinds", "law", "TooMany", "InvalidMix", "InvalidChange", "UnknownMark", "PriceplansError"] : List PySem.Str)
def fa : List He.Fa := gl.map He.Fa.glo ++ (bltNames.map He.Fa.free ++ [He.Fa.free "ValueError"])
abbrev R : PySem.W.OpenRow := PySem.W.OpenLaw.row PySem.Challenge.rw_priceplans_k02_errors_by_hand
def tf : List He.Defn := []
abbrev hk : PySem.W.Hook := Dk.hookY 4 fa fn [] tf (Dk.exER)
def ob (s : PySem.W.SharedT) : He.AlX := Dk.obsY 4 fa fn [] tf (Dk.exER) (HandSHeadRun.getT s)
theorem ob_eq (s : PySem.W.SharedT) : ob s = hk.obs s.abs := Dk.obsY_eq (HandSHeadRun.getT_eq s)
theorem run (w : World) : HandSHeadRun.RunEq R (PySem.W.view R.prog [14]) hk ob 4000 (["PriceplansError", "TooMany", "InvalidMix", "InvalidChange", "UnknownMark", "_law_open", "_law_spread", "_law_take", "_law_one_of", "_law_odd", "_law_all_of", "_law_kinds"] : List PySem.Str) w := by
  intro os
  kernel_rfl
end K02
namespace K02
open PySem PySem.Spec PyProof.Rows L2 Dk
theorem sc_q3 : FnScope P_q3 P_q3 (defScope S_q3) := ⟨rfl, rfl, rfl, by decide +kernel, rfl, by decide +kernel, by decide +kernel⟩
theorem bd_q3 {K : Fg} {f : Addr} {fd : FuncData} (D : DfnM K "__init__" "TooMany.__init__" S_q3 f fd) : Binds K fd P_q3 [] := D.F.bindsN fun _ _ _ _ _ _ us hl => match us, hl with | [_, _], _ => rfl
theorem ok_q3 {P : Program} {w : World} {K : Fg} {mg : Str → Option Value} {base : Heap} {k : Nat} {f C Bc : Addr} {fd : FuncData} (D : DfnM K "__init__" "TooMany.__init__" S_q3 f fd) (nc : FldC K C "node") (mB : mg "PriceplansError" = some (.ref Bc)) (bi : BaseI K Bc) : FnOk P w K mg base CX0 (k + 1) f fd P_q3 (spFldC C "node") :=
  fn_fld D nc sc_q3 fun cdv A outer s H E => pss_fld (ps_expr (pe_ownInit rfl mB (by decide) bi (pa_cons (pe_var (i := 0) rfl (Or.inl rfl)) (pa_cons pe_str pa_nil)))) (ps_ost (pe_var (i := 0) rfl (Or.inl rfl)) (pe_var (i := 1) rfl (Or.inl rfl)))
theorem sc_q2 : FnScope P_q2 P_q2 (defScope S_q2) := ⟨rfl, rfl, rfl, by decide +kernel, rfl, by decide +kernel, by decide +kernel⟩
theorem bd_q2 {K : Fg} {f : Addr} {fd : FuncData} (D : DfnM K "__init__" "InvalidMix.__init__" S_q2 f fd) : Binds K fd P_q2 [] := D.F.bindsN fun _ _ _ _ _ _ us hl => match us, hl with | [_, _], _ => rfl
theorem ok_q2 {P : Program} {w : World} {K : Fg} {mg : Str → Option Value} {base : Heap} {k : Nat} {f C Bc : Addr} {fd : FuncData} (D : DfnM K "__init__" "InvalidMix.__init__" S_q2 f fd) (nc : FldC K C "value") (mB : mg "PriceplansError" = some (.ref Bc)) (bi : BaseI K Bc) : FnOk P w K mg base CX0 (k + 1) f fd P_q2 (spFldC C "value") :=
  fn_fld D nc sc_q2 fun cdv A outer s H E => pss_fld (ps_expr (pe_ownInit rfl mB (by decide) bi (pa_cons (pe_var (i := 0) rfl (Or.inl rfl)) (pa_cons pe_str pa_nil)))) (ps_ost (pe_var (i := 0) rfl (Or.inl rfl)) (pe_var (i := 1) rfl (Or.inl rfl)))
theorem sc_q0 : FnScope P_q0 P_q0 (defScope S_q0) := ⟨rfl, rfl, rfl, by decide +kernel, rfl, by decide +kernel, by decide +kernel⟩
theorem bd_q0 {K : Fg} {f : Addr} {fd : FuncData} (D : DfnM K "__init__" "InvalidChange.__init__" S_q0 f fd) : Binds K fd P_q0 [] := D.F.bindsN fun _ _ _ _ _ _ us hl => match us, hl with | [_, _], _ => rfl
theorem ok_q0 {P : Program} {w : World} {K : Fg} {mg : Str → Option Value} {base : Heap} {k : Nat} {f C Bc : Addr} {fd : FuncData} (D : DfnM K "__init__" "InvalidChange.__init__" S_q0 f fd) (nc : FldC K C "value") (mB : mg "PriceplansError" = some (.ref Bc)) (bi : BaseI K Bc) : FnOk P w K mg base CX0 (k + 1) f fd P_q0 (spFldC C "value") :=
  fn_fld D nc sc_q0 fun cdv A outer s H E => pss_fld (ps_expr (pe_ownInit rfl mB (by decide) bi (pa_cons (pe_var (i := 0) rfl (Or.inl rfl)) (pa_cons pe_str pa_nil)))) (ps_ost (pe_var (i := 0) rfl (Or.inl rfl)) (pe_var (i := 1) rfl (Or.inl rfl)))
theorem sc_q1 : FnScope P_q1 P_q1 (defScope S_q1) := ⟨rfl, rfl, rfl, by decide +kernel, rfl, by decide +kernel, by decide +kernel⟩
theorem bd_q1 {K : Fg} {f : Addr} {fd : FuncData} (D : DfnM K "__init__" "UnknownMark.__init__" S_q1 f fd) : Binds K fd P_q1 [] := D.F.bindsN fun _ _ _ _ _ _ us hl => match us, hl with | [_, _], _ => rfl
theorem ok_q1 {P : Program} {w : World} {K : Fg} {mg : Str → Option Value} {base : Heap} {k : Nat} {f C Bc : Addr} {fd : FuncData} (D : DfnM K "__init__" "UnknownMark.__init__" S_q1 f fd) (nc : FldC K C "number") (mB : mg "PriceplansError" = some (.ref Bc)) (bi : BaseI K Bc) : FnOk P w K mg base CX0 (k + 1) f fd P_q1 (spFldC C "number") :=
  fn_fld D nc sc_q1 fun cdv A outer s H E => pss_fld (ps_expr (pe_ownInit rfl mB (by decide) bi (pa_cons (pe_var (i := 0) rfl (Or.inl rfl)) (pa_cons pe_str pa_nil)))) (ps_ost (pe_var (i := 0) rfl (Or.inl rfl)) (pe_var (i := 1) rfl (Or.inl rfl)))
theorem sc_q9 : FnScope N_q9 P_q9 (defScope S_q9) := ⟨rfl, rfl, rfl, by decide +kernel, rfl, by decide +kernel, by decide +kernel⟩
theorem bd_q9 {K : Fg} {mg : Str → Option Value} {f : Addr} {fd : FuncData} (D : Dfn K mg "_law_open" S_q9 f fd) : Binds K fd P_q9 [] := D.F.bindsN fun _ _ _ _ _ _ us hl => match us, hl with | [_], _ => rfl
def t_q9 : DS :=
    (sCons (dSet 1 (dCB listD (aCons (tmpD (dScr 0 pNone (pSome (tmpD (dC (.int 12)))))) aNil)))
    (sCons (dFor (iEn (aCons (tmpD (dScr 0 (pSome (tmpD (dC (.int 12)))) (pSome (tmpD (dC (.int 63)))))) aNil)) (gT 2 (gCons (gN 2) (gCons (gN 3) gNil))) (dSetIx 1 (tmpD (dBin modD (tmpD (dCB intD (aCons (oSlot 2) aNil))) (tmpD (dC (.int 12))))) (dBin addD (tmpD (dBin ixD (oSlot 1) (tmpD (dBin modD (tmpD (dCB intD (aCons (oSlot 2) aNil))) (tmpD (dC (.int 12))))))) (oSlot 3))))
    (dRet (dDisp Rs.own (aCons (oVal (dVar 1)) (aCons (oVal (dC (.int 0))) (aCons (oVal (dC (.int 0))) aNil)))))))
theorem ok_q9 {P : Program} {w : World} {K : Fg} {mg : Str → Option Value} {base : Heap} {k : Nat} {f_q9 : Addr} {fd_q9 : FuncData}    {dsp : DSp}
    (B : Blt mg) (D_q9 : Dfn K mg "_law_open" S_q9 f_q9 fd_q9)
    (hlaw : ∀ as pn Q, as.length = 1 → dsp as pn Q → t_q9 { nx := fun ρ => Q .none ρ.pn, rt := Q } ⟨startD 4 as, pn⟩) : FnD P w K mg base (k + 1) f_q9 fd_q9 P_q9 dsp :=
  FnD.mkD D_q9 sc_q9 (fun cdv A outer s H E O => (css_cons (cs_set 1 O (ce_callTy cd_list (B.get "list") b_list (ca_cons (ce_scr 0 cp_none (cp_some ce_int)) ca_nil)))
    (css_cons (cs_for O (ci_enum (B.get "enumerate") (ca_cons (ce_scr 0 (cp_some ce_int) (cp_some ce_int)) ca_nil)) (cg_t O (cgs_cons (cg_n 2 O.nd) (cgs_cons (cg_n 3 O.nd) cgs_nil))) (css_one (cs_setIx 1 (ce_bin od_mod (ce_callTy cd_int (B.get "int") b_int (ca_cons (co_slot 2) ca_nil)) ce_int) (ce_bin od_add (ce_sub (co_slot 1) (ce_bin od_mod (ce_callTy cd_int (B.get "int") b_int (ca_cons (co_slot 2) ca_nil)) ce_int)) (co_slot 3)))))
    (css_one (cs_ret (ce_lst (ca_cons (co_val (ce_var 1)) (ca_cons (co_val ce_int) (ca_cons (co_val ce_int) ca_nil))))))))) hlaw
theorem sc_q5 : FnScope N_q5 P_q5 (defScope S_q5) := ⟨rfl, rfl, rfl, by decide +kernel, rfl, by decide +kernel, by decide +kernel⟩
theorem bd_q5 {K : Fg} {mg : Str → Option Value} {f : Addr} {fd : FuncData} (D : Dfn K mg "_law_spread" S_q5 f fd) : Binds K fd P_q5 [] := D.F.bindsN fun _ _ _ _ _ _ us hl => match us, hl with | [_, _], _ => rfl
def t_q5 : DS :=
    (sCons (dIfS (dTst (tmpD (dBin geD (oSlot 0) (tmpD (dBin powD (tmpD (dC (.int 10))) (tmpD (dC (.int 18)))))))) (dRet (dVar 0)) sNil)
    (sCons (dSet 2 (dDisp Rs.own (aCons (oVal (dC (.int 2147483629))) (aCons (oVal (dC (.int 2147483587))) (aCons (oVal (dC (.int 2147483579))) (aCons (oVal (dC (.int 2147483563))) (aCons (oVal (dC (.int 2147483549))) (aCons (oVal (dC (.int 2147483543))) (aCons (oVal (dC (.int 2147483497))) (aCons (oVal (dC (.int 2147483489))) aNil))))))))))
    (sCons (dSet 2 (dBin addD (oSlot 2) (tmpD (dDisp Rs.own (aCons (oVal (dC (.int 2147483477))) (aCons (oVal (dC (.int 2147483423))) (aCons (oVal (dC (.int 2147483399))) (aCons (oVal (dC (.int 2147483353))) (aCons (oVal (dC (.int 2147483323))) aNil)))))))))
    (sCons (dSet 3 (dBin addD (tmpD (dBin addD (tmpD (dBin mulT (tmpD (dBin modD (tmpD (dCB intD (aCons (oSlot 0) aNil))) (tmpD (dC (.int 1000000007))))) (tmpD (dBin addD (tmpD (dBin mulT (tmpD (dC (.int 2))) (oSlot 1))) (tmpD (dC (.int 69069))))))) (tmpD (dBin mulT (oSlot 1) (tmpD (dC (.int 40503))))))) (tmpD (dC (.int 977)))))
    (sCons (dSet 3 (dBin modD (tmpD (dCB intD (aCons (tmpD (dBin powD (oSlot 3) (tmpD (dC (.int 3))))) aNil))) (tmpD (dBin ixD (oSlot 2) (tmpD (dBin modD (tmpD (dCB intD (aCons (oSlot 1) aNil))) (tmpD (dC (.int 13)))))))))
    (sCons (dSet 4 (dBin modD (tmpD (dCB intD (aCons (tmpD (dBin powD (tmpD (dBin addD (tmpD (dBin addD (tmpD (dBin mulT (oSlot 3) (tmpD (dBin addD (oSlot 1) (tmpD (dC (.int 3))))))) (tmpD (dBin modD (tmpD (dCB intD (aCons (oSlot 0) aNil))) (tmpD (dC (.int 65537))))))) (tmpD (dC (.int 5))))) (tmpD (dC (.int 5))))) aNil))) (tmpD (dBin ixD (oSlot 2) (tmpD (dBin modD (tmpD (dCB intD (aCons (tmpD (dBin addD (oSlot 1) (tmpD (dC (.int 5))))) aNil))) (tmpD (dC (.int 13)))))))))
    (sCons (dSet 5 (dBin modD (tmpD (dCB intD (aCons (tmpD (dBin powD (tmpD (dBin addD (tmpD (dBin addD (oSlot 4) (tmpD (dBin modD (tmpD (dCB intD (aCons (oSlot 3) aNil))) (tmpD (dC (.int 1009))))))) (oSlot 1))) (tmpD (dC (.int 3))))) aNil))) (tmpD (dBin ixD (oSlot 2) (tmpD (dBin modD (tmpD (dCB intD (aCons (tmpD (dBin addD (oSlot 1) (tmpD (dC (.int 7))))) aNil))) (tmpD (dC (.int 13)))))))))
    (dRet (dBin addD (tmpD (dBin mulT (tmpD (dBin addD (tmpD (dBin mulT (oSlot 3) (tmpD (dC (.int 2147483647))))) (oSlot 4))) (tmpD (dC (.int 2147483647))))) (oSlot 5))))))))))
theorem ok_q5 {P : Program} {w : World} {K : Fg} {mg : Str → Option Value} {base : Heap} {k : Nat} {f_q5 : Addr} {fd_q5 : FuncData}    {dsp : DSp}
    (B : Blt mg) (D_q5 : Dfn K mg "_law_spread" S_q5 f_q5 fd_q5)
    (hlaw : ∀ as pn Q, as.length = 2 → dsp as pn Q → t_q5 { nx := fun ρ => Q .none ρ.pn, rt := Q } ⟨startD 6 as, pn⟩) : FnD P w K mg base (k + 1) f_q5 fd_q5 P_q5 dsp :=
  FnD.mkD D_q5 sc_q5 (fun cdv A outer s H E O => (css_cons (cs_if (ct_cmp od_ge (co_slot 0) (ce_bin od_pow ce_int ce_int)) (css_one (cs_ret (ce_var 0))) css_nil)
    (css_cons (cs_set 2 O (ce_lst (ca_cons (co_val ce_int) (ca_cons (co_val ce_int) (ca_cons (co_val ce_int) (ca_cons (co_val ce_int) (ca_cons (co_val ce_int) (ca_cons (co_val ce_int) (ca_cons (co_val ce_int) (ca_cons (co_val ce_int) ca_nil))))))))))
    (css_cons (cs_set 2 O (ce_bin od_add (co_slot 2) (ce_lst (ca_cons (co_val ce_int) (ca_cons (co_val ce_int) (ca_cons (co_val ce_int) (ca_cons (co_val ce_int) (ca_cons (co_val ce_int) ca_nil))))))))
    (css_cons (cs_set 3 O (ce_bin od_add (ce_bin od_add (ce_bin od_mulT (ce_bin od_mod (ce_callTy cd_int (B.get "int") b_int (ca_cons (co_slot 0) ca_nil)) ce_int) (ce_bin od_add (ce_bin od_mulT ce_int (co_slot 1)) ce_int)) (ce_bin od_mulT (co_slot 1) ce_int)) ce_int))
    (css_cons (cs_set 3 O (ce_bin od_mod (ce_callTy cd_int (B.get "int") b_int (ca_cons (ce_bin od_pow (co_slot 3) ce_int) ca_nil)) (ce_sub (co_slot 2) (ce_bin od_mod (ce_callTy cd_int (B.get "int") b_int (ca_cons (co_slot 1) ca_nil)) ce_int))))
    (css_cons (cs_set 4 O (ce_bin od_mod (ce_callTy cd_int (B.get "int") b_int (ca_cons (ce_bin od_pow (ce_bin od_add (ce_bin od_add (ce_bin od_mulT (co_slot 3) (ce_bin od_add (co_slot 1) ce_int)) (ce_bin od_mod (ce_callTy cd_int (B.get "int") b_int (ca_cons (co_slot 0) ca_nil)) ce_int)) ce_int) ce_int) ca_nil)) (ce_sub (co_slot 2) (ce_bin od_mod (ce_callTy cd_int (B.get "int") b_int (ca_cons (ce_bin od_add (co_slot 1) ce_int) ca_nil)) ce_int))))
    (css_cons (cs_set 5 O (ce_bin od_mod (ce_callTy cd_int (B.get "int") b_int (ca_cons (ce_bin od_pow (ce_bin od_add (ce_bin od_add (co_slot 4) (ce_bin od_mod (ce_callTy cd_int (B.get "int") b_int (ca_cons (co_slot 3) ca_nil)) ce_int)) (co_slot 1)) ce_int) ca_nil)) (ce_sub (co_slot 2) (ce_bin od_mod (ce_callTy cd_int (B.get "int") b_int (ca_cons (ce_bin od_add (co_slot 1) ce_int) ca_nil)) ce_int))))
    (css_one (cs_ret (ce_bin od_add (ce_bin od_mulT (ce_bin od_add (ce_bin od_mulT (co_slot 3) ce_int) (co_slot 4)) ce_int) (co_slot 5)))))))))))) hlaw
theorem sc_q8 : FnScope N_q8 P_q8 (defScope S_q8) := ⟨rfl, rfl, rfl, by decide +kernel, rfl, by decide +kernel, by decide +kernel⟩
theorem bd_q8 {K : Fg} {mg : Str → Option Value} {f : Addr} {fd : FuncData} (D : Dfn K mg "_law_take" S_q8 f fd) : Binds K fd P_q8 [] := D.F.bindsN fun _ _ _ _ _ _ us hl => match us, hl with | [_, _], _ => rfl
def t_q8 (s_q5 : DSp) : DS :=
    (sCons (dIfS (dTst (tmpD (dBin ltD (tmpD (dPen 0 2)) (oSlot 1)))) (sCons (dSet 3 (dPen 0 1))
    (sCons (dSet 4 (dC (.int 0)))
    (sCons (dIfS (dTst (tmpD (dBin ltD (oSlot 3) (tmpD (dCB lenD (aCons (tmpD (dPen 0 0)) aNil)))))) (dSet 4 (dBin ixD (tmpD (dPen 0 0)) (oSlot 3))) (dIfS (dTst (tmpD (dBin gtD (tmpD (dCB lenD (aCons (tmpD (dPen 0 0)) aNil))) (tmpD (dC (.int 0)))))) (dSet 4 (dBin modD (tmpD (dCB intD (aCons (tmpD (dBin ixD (tmpD (dPen 0 0)) (tmpD (dBin modD (tmpD (dCB intD (aCons (tmpD (dBin addD (tmpD (dBin mulT (oSlot 3) (tmpD (dC (.int 5))))) (tmpD (dC (.int 3))))) aNil))) (tmpD (dCB lenD (aCons (tmpD (dPen 0 0)) aNil))))))) aNil))) (tmpD (dBin addD (tmpD (dBin powD (tmpD (dC (.int 10))) (tmpD (dC (.int 17))))) (oSlot 3))))) sNil))
    (sCons (dPenSet 0 1 (dBin addD (oSlot 3) (tmpD (dC (.int 1)))))
    (dPenSet 0 2 (dCall 2 s_q5 (aCons (oSlot 4) (aCons (oSlot 3) aNil)))))))) sNil)
    (sCons (dSet 2 (dBin modD (tmpD (dCB intD (aCons (tmpD (dPen 0 2)) aNil))) (oSlot 1)))
    (sCons (dPenSet 0 2 (dBin fdivD (tmpD (dPen 0 2)) (oSlot 1)))
    (dRet (dVar 2)))))
theorem ok_q8 {P : Program} {w : World} {K : Fg} {mg : Str → Option Value} {base : Heap} {k : Nat} {f_q8 : Addr} {fd_q8 : FuncData}  {f_q5 : Addr} {fd_q5 : FuncData} {s_q5 : DSp} {dsp : DSp}
    (B : Blt mg) (D_q8 : Dfn K mg "_law_take" S_q8 f_q8 fd_q8)    (D_q5 : Dfn K mg "_law_spread" S_q5 f_q5 fd_q5)  (F_q5 : FnD P w K mg base k f_q5 fd_q5 P_q5 s_q5)
    (hlaw : ∀ as pn Q, as.length = 2 → dsp as pn Q → t_q8 s_q5 { nx := fun ρ => Q .none ρ.pn, rt := Q } ⟨startD 5 as, pn⟩) : FnD P w K mg base (k + 1) f_q8 fd_q8 P_q8 dsp :=
  FnD.mkD D_q8 sc_q8 (fun cdv A outer s H E O => (css_cons (cs_if (ct_cmp od_lt (ce_pen 0) (co_slot 1)) (css_cons (cs_set 3 O (ce_pen 0))
    (css_cons (cs_set 4 O ce_int)
    (css_cons (cs_if (ct_cmp od_lt (co_slot 3) (ce_callB cd_len (B.get "len") b_len (ca_cons (ce_pen 0) ca_nil))) (css_one (cs_set 4 O (ce_sub (ce_pen 0) (co_slot 3)))) (css_one (cs_if (ct_cmp od_gt (ce_callB cd_len (B.get "len") b_len (ca_cons (ce_pen 0) ca_nil)) ce_int) (css_one (cs_set 4 O (ce_bin od_mod (ce_callTy cd_int (B.get "int") b_int (ca_cons (ce_sub (ce_pen 0) (ce_bin od_mod (ce_callTy cd_int (B.get "int") b_int (ca_cons (ce_bin od_add (ce_bin od_mulT (co_slot 3) ce_int) ce_int) ca_nil)) (ce_callB cd_len (B.get "len") b_len (ca_cons (ce_pen 0) ca_nil)))) ca_nil)) (ce_bin od_add (ce_bin od_pow ce_int ce_int) (co_slot 3))))) css_nil)))
    (css_cons (cs_setPen 0 (ce_bin od_add (co_slot 3) ce_int))
    (css_one (cs_setPen 0 (ce_call F_q5 O D_q5.m D_q5.F.kp (bd_q5 D_q5) (ca_cons (co_slot 4) (ca_cons (co_slot 3) ca_nil))))))))) css_nil)
    (css_cons (cs_set 2 O (ce_bin od_mod (ce_callTy cd_int (B.get "int") b_int (ca_cons (ce_pen 0) ca_nil)) (co_slot 1)))
    (css_cons (cs_setPen 0 (ce_bin od_fdiv (ce_pen 0) (co_slot 1)))
    (css_one (cs_ret (ce_var 2))))))) hlaw
theorem sc_q6 : FnScope N_q6 P_q6 (defScope S_q6) := ⟨rfl, rfl, rfl, by decide +kernel, rfl, by decide +kernel, by decide +kernel⟩
theorem bd_q6 {K : Fg} {mg : Str → Option Value} {f : Addr} {fd : FuncData} (D : Dfn K mg "_law_one_of" S_q6 f fd) : Binds K fd P_q6 [] := D.F.bindsN fun _ _ _ _ _ _ us hl => match us, hl with | [_, _], _ => rfl
def t_q6 (s_q8 : DSp) : DS :=
    (dRet (dBin ixD (oSlot 1) (tmpD (dCall 2 s_q8 (aCons (oSlot 0) (aCons (oVal (dCB lenD (aCons (oSlot 1) aNil))) aNil))))))
theorem ok_q6 {P : Program} {w : World} {K : Fg} {mg : Str → Option Value} {base : Heap} {k : Nat} {f_q6 : Addr} {fd_q6 : FuncData}  {f_q8 : Addr} {fd_q8 : FuncData} {s_q8 : DSp} {dsp : DSp}
    (B : Blt mg) (D_q6 : Dfn K mg "_law_one_of" S_q6 f_q6 fd_q6)    (D_q8 : Dfn K mg "_law_take" S_q8 f_q8 fd_q8)  (F_q8 : FnD P w K mg base k f_q8 fd_q8 P_q8 s_q8)
    (hlaw : ∀ as pn Q, as.length = 2 → dsp as pn Q → t_q6 s_q8 { nx := fun ρ => Q .none ρ.pn, rt := Q } ⟨startD 2 as, pn⟩) : FnD P w K mg base (k + 1) f_q6 fd_q6 P_q6 dsp :=
  FnD.mkD D_q6 sc_q6 (fun cdv A outer s H E O => (css_one (cs_ret (ce_sub (co_slot 1) (ce_call F_q8 O D_q8.m D_q8.F.kp (bd_q8 D_q8) (ca_cons (co_slot 0) (ca_cons (co_val (ce_callB cd_len (B.get "len") b_len (ca_cons (co_slot 1) ca_nil))) ca_nil))))))) hlaw
theorem sc_q10 : FnScope N_q10 P_q10 (defScope S_q10) := ⟨rfl, rfl, rfl, by decide +kernel, rfl, by decide +kernel, by decide +kernel⟩
theorem bd_q10 {K : Fg} {mg : Str → Option Value} {f : Addr} {fd : FuncData} (D : Dfn K mg "_law_odd" S_q10 f fd) : Binds K fd P_q10 [] := D.F.bindsN fun _ _ _ _ _ _ us hl => match us, hl with | [_], _ => rfl
def t_q10 (s_q6 : DSp) : DS :=
    (sCons (dSet 1 (dDisp Rs.own (aCons (oVal (dC .none)) (aCons (oVal (dC (.bool true))) (aCons (oVal (dC (.bool false))) (aCons (oVal (dC (.int 0))) (aCons (oVal (dC (.int 1))) (aCons (oVal (dUn negD (tmpD (dC (.int 1))))) (aCons (oVal (dC (.int 2))) (aCons (oVal (dC (.int 3))) (aCons (oVal (dC (.int 20))) (aCons (oVal (dC (.int 24))) (aCons (oVal (dC (.int 1000))) (aCons (oVal (dC (.int 1001))) (aCons (oVal (dBin powD (tmpD (dC (.int 10))) (tmpD (dC (.int 6))))) (aCons (oVal (dBin addD (tmpD (dBin powD (tmpD (dC (.int 10))) (tmpD (dC (.int 6))))) (tmpD (dC (.int 1))))) (aCons (oVal (dBin powD (tmpD (dC (.int 10))) (tmpD (dC (.int 30))))) (aCons (oVal (dC (.str ("" : Str)))) (aCons (oVal (dC (.str ("a" : Str)))) (aCons (oVal (dDisp mkT aNil)) (aCons (oVal (dDisp Rs.own aNil)) (aCons (oVal (dC (.dict []))) aNil))))))))))))))))))))))
    (dRet (dCall 2 s_q6 (aCons (oSlot 0) (aCons (oVal (dBin addD (oSlot 1) (tmpD (dDisp Rs.own (aCons (oVal (dDisp mkT (aCons (oVal (dC (.int 0))) aNil))) (aCons (oVal (dDisp mkT (aCons (oVal (dC (.int 0))) (aCons (oVal (dDisp mkT aNil)) aNil)))) (aCons (oVal (dDisp mkT (aCons (oVal (dC (.int 1))) (aCons (oVal (dC (.int 0))) aNil)))) (aCons (oVal (dDisp mkT (aCons (oVal (dDisp mkT (aCons (oVal (dC (.int 0))) aNil))) (aCons (oVal (dDisp mkT aNil)) aNil)))) (aCons (oVal (dDisp Rs.own (aCons (oVal (dC (.int 0))) aNil))) (aCons (oVal (dDisp mkT (aCons (oVal (dC (.int 0))) (aCons (oVal (dC (.int 0))) (aCons (oVal (dC (.int 0))) aNil))))) (aCons (oVal (dDisp mkT (aCons (oVal (dDisp mkT (aCons (oVal (dC (.int 1))) aNil))) (aCons (oVal (dDisp mkT (aCons (oVal (dC (.int 0))) aNil))) aNil)))) (aCons (oVal (dC (.str ("kept" : Str)))) (aCons (oVal (dC (.str ("mixed" : Str)))) aNil))))))))))))) aNil)))))
theorem ok_q10 {P : Program} {w : World} {K : Fg} {mg : Str → Option Value} {base : Heap} {k : Nat} {f_q10 : Addr} {fd_q10 : FuncData}  {f_q6 : Addr} {fd_q6 : FuncData} {s_q6 : DSp} {dsp : DSp}
    (B : Blt mg) (D_q10 : Dfn K mg "_law_odd" S_q10 f_q10 fd_q10)    (D_q6 : Dfn K mg "_law_one_of" S_q6 f_q6 fd_q6)  (F_q6 : FnD P w K mg base k f_q6 fd_q6 P_q6 s_q6)
    (hlaw : ∀ as pn Q, as.length = 1 → dsp as pn Q → t_q10 s_q6 { nx := fun ρ => Q .none ρ.pn, rt := Q } ⟨startD 2 as, pn⟩) : FnD P w K mg base (k + 1) f_q10 fd_q10 P_q10 dsp :=
  FnD.mkD D_q10 sc_q10 (fun cdv A outer s H E O => (css_cons (cs_set 1 O (ce_lst (ca_cons (co_val ce_non) (ca_cons (co_val ce_bl) (ca_cons (co_val ce_bl) (ca_cons (co_val ce_int) (ca_cons (co_val ce_int) (ca_cons (co_val (ce_un ud_neg ce_int)) (ca_cons (co_val ce_int) (ca_cons (co_val ce_int) (ca_cons (co_val ce_int) (ca_cons (co_val ce_int) (ca_cons (co_val ce_int) (ca_cons (co_val ce_int) (ca_cons (co_val (ce_bin od_pow ce_int ce_int)) (ca_cons (co_val (ce_bin od_add (ce_bin od_pow ce_int ce_int) ce_int)) (ca_cons (co_val (ce_bin od_pow ce_int ce_int)) (ca_cons (co_val ce_str) (ca_cons (co_val ce_str) (ca_cons (co_val (ce_tup ca_nil)) (ca_cons (co_val (ce_lst ca_nil)) (ca_cons (co_val ce_dict0) ca_nil))))))))))))))))))))))
    (css_one (cs_ret (ce_call F_q6 O D_q6.m D_q6.F.kp (bd_q6 D_q6) (ca_cons (co_slot 0) (ca_cons (co_val (ce_bin od_add (co_slot 1) (ce_lst (ca_cons (co_val (ce_tup (ca_cons (co_val ce_int) ca_nil))) (ca_cons (co_val (ce_tup (ca_cons (co_val ce_int) (ca_cons (co_val (ce_tup ca_nil)) ca_nil)))) (ca_cons (co_val (ce_tup (ca_cons (co_val ce_int) (ca_cons (co_val ce_int) ca_nil)))) (ca_cons (co_val (ce_tup (ca_cons (co_val (ce_tup (ca_cons (co_val ce_int) ca_nil))) (ca_cons (co_val (ce_tup ca_nil)) ca_nil)))) (ca_cons (co_val (ce_lst (ca_cons (co_val ce_int) ca_nil))) (ca_cons (co_val (ce_tup (ca_cons (co_val ce_int) (ca_cons (co_val ce_int) (ca_cons (co_val ce_int) ca_nil))))) (ca_cons (co_val (ce_tup (ca_cons (co_val (ce_tup (ca_cons (co_val ce_int) ca_nil))) (ca_cons (co_val (ce_tup (ca_cons (co_val ce_int) ca_nil))) ca_nil)))) (ca_cons (co_val ce_str) (ca_cons (co_val ce_str) ca_nil)))))))))))) ca_nil))))))) hlaw
theorem sc_q4 : FnScope N_q4 P_q4 (defScope S_q4) := ⟨rfl, rfl, rfl, by decide +kernel, rfl, by decide +kernel, by decide +kernel⟩
theorem bd_q4 {K : Fg} {mg : Str → Option Value} {f : Addr} {fd : FuncData} (D : Dfn K mg "_law_all_of" S_q4 f fd) : Binds K fd P_q4 [] := D.F.bindsN fun _ _ _ _ _ _ us hl => match us, hl with | [_, _], _ => rfl
def t_q4 (ec : Ect) : DS :=
    (dRet (dDisp Rs.own (aCons (oVal (dErr ec.c1 "node" (oVal (dVar 0)))) (aCons (oVal (dErr ec.c2 "value" (oVal (dVar 1)))) (aCons (oVal (dErr ec.c3 "value" (oVal (dVar 1)))) (aCons (oVal (dErr ec.c4 "number" (oVal (dVar 1)))) aNil))))))
theorem ok_q4 {P : Program} {w : World} {K : Fg} {mg : Str → Option Value} {base : Heap} {k : Nat} {f_q4 : Addr} {fd_q4 : FuncData}   {ec : Ect} {f_E1 f_E2 f_E3 f_E4 : Addr} {fd_E1 fd_E2 fd_E3 fd_E4 : FuncData}  {dsp : DSp}
    (B : Blt mg) (D_q4 : Dfn K mg "_law_all_of" S_q4 f_q4 fd_q4)   (er : ER K mg ec f_E1 f_E2 f_E3 f_E4) (ef : ErF P w K mg base ec f_E1 f_E2 f_E3 f_E4 fd_E1 fd_E2 fd_E3 fd_E4)
    (hlaw : ∀ as pn Q, as.length = 2 → dsp as pn Q → t_q4 ec { nx := fun ρ => Q .none ρ.pn, rt := Q } ⟨startD 2 as, pn⟩) : FnD P w K mg base (k + 3) f_q4 fd_q4 P_q4 dsp :=
  FnD.mkD D_q4 sc_q4 (fun cdv A outer s H E O => (css_one (cs_ret (ce_lst (ca_cons (co_val (ce_err (fl := "node") O er.e1 (ef.i1 k) ef.b1 (co_val (ce_var 0)))) (ca_cons (co_val (ce_err (fl := "value") O er.e2 (ef.i2 k) ef.b2 (co_val (ce_var 1)))) (ca_cons (co_val (ce_err (fl := "value") O er.e3 (ef.i3 k) ef.b3 (co_val (ce_var 1)))) (ca_cons (co_val (ce_err (fl := "number") O er.e4 (ef.i4 k) ef.b4 (co_val (ce_var 1)))) ca_nil)))))))) hlaw
theorem sc_q7 : FnScope N_q7 P_q7 (defScope S_q7) := ⟨rfl, rfl, rfl, by decide +kernel, rfl, by decide +kernel, by decide +kernel⟩
theorem bd_q7 {K : Fg} {mg : Str → Option Value} {f : Addr} {fd : FuncData} (D : Dfn K mg "_law_kinds" S_q7 f fd) : Binds K fd P_q7 [] := D.F.bindsN fun _ _ _ _ _ _ us hl => match us, hl with | [_], _ => rfl
def t_q7 (ec : Ect) : DS :=
    (sCons (dSet 1 (dDisp Rs.own (aCons (oVal (dIsE ec.kt (.ref ec.c1) (oSlot 0))) (aCons (oVal (dIsE ec.kt (.ref ec.c2) (oSlot 0))) aNil))))
    (dRet (dBin addD (oSlot 1) (tmpD (dDisp Rs.own (aCons (oVal (dIsE ec.kt (.ref ec.c3) (oSlot 0))) (aCons (oVal (dIsE ec.kt (.ref ec.c4) (oSlot 0))) aNil)))))))
theorem ok_q7 {P : Program} {w : World} {K : Fg} {mg : Str → Option Value} {base : Heap} {k : Nat} {f_q7 : Addr} {fd_q7 : FuncData}   {ec : Ect} {f_E1 f_E2 f_E3 f_E4 : Addr}  {dsp : DSp}
    (B : Blt mg) (D_q7 : Dfn K mg "_law_kinds" S_q7 f_q7 fd_q7)   (er : ER K mg ec f_E1 f_E2 f_E3 f_E4)
    (hlaw : ∀ as pn Q, as.length = 1 → dsp as pn Q → t_q7 ec { nx := fun ρ => Q .none ρ.pn, rt := Q } ⟨startD 2 as, pn⟩) : FnD P w K mg base (k + 1) f_q7 fd_q7 P_q7 dsp :=
  FnD.mkD D_q7 sc_q7 (fun cdv A outer s H E O => (css_cons (cs_set 1 O (ce_lst (ca_cons (co_val (ce_isE er.kt (co_slot 0) (B.get "isinstance") er.e1.mC)) (ca_cons (co_val (ce_isE er.kt (co_slot 0) (B.get "isinstance") er.e2.mC)) ca_nil))))
    (css_one (cs_ret (ce_bin od_add (co_slot 1) (ce_lst (ca_cons (co_val (ce_isE er.kt (co_slot 0) (B.get "isinstance") er.e3.mC)) (ca_cons (co_val (ce_isE er.kt (co_slot 0) (B.get "isinstance") er.e4.mC)) ca_nil)))))))) hlaw
theorem sc_law : FnScope N_law P_law (defScope S_law) := ⟨rfl, rfl, rfl, by decide +kernel, rfl, by decide +kernel, by decide +kernel⟩
def u1_2 (ec : Ect) (s_q8 : DSp) (s_q10 : DSp) (s_q6 : DSp) (s_q4 : DSp) (s_q7 : DSp) : DS :=
    (dIfS (dTst (tmpD (dBin neD (tmpD (dCB reprZ (aCons (oSlot 9) aNil))) (oSlot 8)))) (dRet (dC (.bool false))) sNil)
def u1_1 (ec : Ect) (s_q8 : DSp) (s_q10 : DSp) (s_q6 : DSp) (s_q4 : DSp) (s_q7 : DSp) : DS :=
    (sCons (dSet 9 (dDisp Rs.own (aCons (oVal (dFldE ec.xk "node" (tmpD (dBin ixD (oSlot 7) (tmpD (dC (.int 0))))))) (aCons (oVal (dFldE ec.xk "value" (tmpD (dBin ixD (oSlot 7) (tmpD (dC (.int 1))))))) (aCons (oVal (dFldE ec.xk "value" (tmpD (dBin ixD (oSlot 7) (tmpD (dC (.int 2))))))) (aCons (oVal (dFldE ec.xk "number" (tmpD (dBin ixD (oSlot 7) (tmpD (dC (.int 3))))))) aNil))))))
    (u1_2 ec s_q8 s_q10 s_q6 s_q4 s_q7))
def u2_6 (ec : Ect) (s_q8 : DSp) (s_q10 : DSp) (s_q6 : DSp) (s_q4 : DSp) (s_q7 : DSp) : DS :=
    (dIfS (dNot (dTst (tmpD (dNewIs true)))) (dRet (dC (.bool false))) sNil)
def u2_5 (ec : Ect) (s_q8 : DSp) (s_q10 : DSp) (s_q6 : DSp) (s_q4 : DSp) (s_q7 : DSp) : DS :=
    (sCons (dIfS (dTst (tmpD (dBin neD (tmpD (dLc (iSeq (oSlot 4)) (gT 2 (gCons (gN 13) (gCons (gN 14) gNil))) dYes (oVal (dCB reprZ (aCons (tmpD (dDisp Rs.own (aCons (oVal (dVar 13)) (aCons (oVal (dVar 14)) (aCons (oVal (dVar 14)) (aCons (oVal (dVar 14)) aNil)))))) aNil))) [13, 14])) (oSlot 5)))) (dRet (dC (.bool false))) sNil)
    (u2_6 ec s_q8 s_q10 s_q6 s_q4 s_q7))
def u2_4 (ec : Ect) (s_q8 : DSp) (s_q10 : DSp) (s_q6 : DSp) (s_q4 : DSp) (s_q7 : DSp) : DS :=
    (sCons (dFor (iZp false (aCons (oFix 6) (aCons (oFix 5) aNil))) (gT 2 (gCons (gN 7) (gCons (gN 8) gNil))) (sCons (dFor (iEn (aCons (oFix 7) aNil)) (gT 2 (gCons (gN 11) (gCons (gN 12) gNil))) (sCons (dIfS (dOr (dNot (dTst (tmpD (dIsE ec.kt (.ref ec.cB) (oSlot 12))))) (dNot (dTst (tmpD (dIsE ec.kt (.type "ValueError") (oSlot 12)))))) (dRet (dC (.bool false))) sNil)
    (dIfS (dTst (tmpD (dBin neD (tmpD (dCall 1 s_q7 (aCons (oSlot 12) aNil))) (tmpD (dLc (iRange1 (tmpD (dC (.int 4)))) (gN 15) dYes (oVal (dBin eqD (oSlot 15) (oSlot 11))) [15]))))) (dRet (dC (.bool false))) sNil)))
    (u1_1 ec s_q8 s_q10 s_q6 s_q4 s_q7)))
    (u2_5 ec s_q8 s_q10 s_q6 s_q4 s_q7))
def u2_3 (ec : Ect) (s_q8 : DSp) (s_q10 : DSp) (s_q6 : DSp) (s_q4 : DSp) (s_q7 : DSp) : DS :=
    (sCons (dSet 6 (dLc (iSeq (oSlot 4)) (gT 2 (gCons (gN 13) (gCons (gN 14) gNil))) dYes (oVal (dCall 2 s_q4 (aCons (oSlot 13) (aCons (oSlot 14) aNil)))) [13, 14]))
    (u2_4 ec s_q8 s_q10 s_q6 s_q4 s_q7))
def u2_2 (ec : Ect) (s_q8 : DSp) (s_q10 : DSp) (s_q6 : DSp) (s_q4 : DSp) (s_q7 : DSp) : DS :=
    (sCons (dSet 5 (dLc (iSeq (oSlot 4)) (gT 2 (gCons (gN 13) (gCons (gN 14) gNil))) dYes (oVal (dCB reprZ (aCons (tmpD (dDisp Rs.own (aCons (oVal (dVar 13)) (aCons (oVal (dVar 14)) (aCons (oVal (dVar 14)) (aCons (oVal (dVar 14)) aNil)))))) aNil))) [13, 14]))
    (u2_3 ec s_q8 s_q10 s_q6 s_q4 s_q7))
def u2_1 (ec : Ect) (s_q8 : DSp) (s_q10 : DSp) (s_q6 : DSp) (s_q4 : DSp) (s_q7 : DSp) : DS :=
    (sCons (dSet 4 (dLc (iRange1 (tmpD (dC (.int 2)))) (gN 10) dYes (oVal (dDisp mkT (aCons (oVal (dCall 2 s_q6 (aCons (oSlot 1) (aCons (oSlot 3) aNil)))) (aCons (oVal (dCall 1 s_q10 (aCons (oSlot 1) aNil))) aNil)))) [10]))
    (u2_2 ec s_q8 s_q10 s_q6 s_q4 s_q7))
def t_law (ec : Ect) (s_q8 s_q10 s_q6 s_q4 s_q7 : DSp) : DS :=
    (sCons (dFor (iRange1 (tmpD (dC (.int 3)))) (gN 2) (sCons (dSet 3 (dDisp Rs.own (aCons (oVal (dCall 2 s_q8 (aCons (oSlot 1) (aCons (oVal (dC (.int 24))) aNil)))) (aCons (oVal (dC (.int 24))) (aCons (oVal (dUn negD (tmpD (dC (.int 1))))) (aCons (oVal (dBin powD (tmpD (dC (.int 10))) (tmpD (dC (.int 20))))) (aCons (oVal (dCall 1 s_q10 (aCons (oSlot 1) aNil))) aNil)))))))
    (u2_1 ec s_q8 s_q10 s_q6 s_q4 s_q7)))
    (dRet (dC (.bool true))))
theorem ok_law {P : Program} {w : World} {K : Fg} {mg : Str → Option Value} {base : Heap} {k : Nat} {f_law : Addr} {fd_law : FuncData} {f_q9 : Addr} {fd_q9 : FuncData} {f_q8 : Addr} {fd_q8 : FuncData} {f_q10 : Addr} {fd_q10 : FuncData} {f_q6 : Addr} {fd_q6 : FuncData} {f_q4 : Addr} {fd_q4 : FuncData} {f_q7 : Addr} {fd_q7 : FuncData} {ec : Ect} {f_E1 f_E2 f_E3 f_E4 : Addr} {s_q9 s_q8 s_q10 s_q6 s_q4 s_q7 : DSp}
    (B : Blt mg) (D_law : Dfn K mg "law" S_law f_law fd_law)  (er : ER K mg ec f_E1 f_E2 f_E3 f_E4)  (D_q9 : Dfn K mg "_law_open" S_q9 f_q9 fd_q9) (D_q8 : Dfn K mg "_law_take" S_q8 f_q8 fd_q8) (D_q10 : Dfn K mg "_law_odd" S_q10 f_q10 fd_q10) (D_q6 : Dfn K mg "_law_one_of" S_q6 f_q6 fd_q6) (D_q4 : Dfn K mg "_law_all_of" S_q4 f_q4 fd_q4) (D_q7 : Dfn K mg "_law_kinds" S_q7 f_q7 fd_q7)  (F_q9 : FnD P w K mg base k f_q9 fd_q9 P_q9 s_q9) (F_q8 : FnD P w K mg base k f_q8 fd_q8 P_q8 s_q8) (F_q10 : FnD P w K mg base k f_q10 fd_q10 P_q10 s_q10) (F_q6 : FnD P w K mg base k f_q6 fd_q6 P_q6 s_q6) (F_q4 : FnD P w K mg base k f_q4 fd_q4 P_q4 s_q4) (F_q7 : FnD P w K mg base k f_q7 fd_q7 P_q7 s_q7)
    (hopen : ∀ (ns : List Int) (Q : D → Option Pen → Prop), (∀ cells, Q (penL cells) none) → s_q9 [.scr ns] none Q)
    (hlaw : ∀ cells : List Int, t_law ec s_q8 s_q10 s_q6 s_q4 s_q7 { nx := fun _ => False, rt := fun d _ => d = .bool true } ⟨law0 16, some ⟨cells, 0, 0⟩⟩) : FnG P w K mg base CX0 (k + 1) f_law fd_law P_law (spLaw K) :=
  law_mk D_law sc_law rfl (by decide) (fun cdv A outer s H E O => (cs_set 1 O (ce_call F_q9 O D_q9.m D_q9.F.kp (bd_q9 D_q9) (ca_cons (co_slot 0) ca_nil)))) (fun cdv A outer s H E O => (css_cons (cs_for O (ci_range1 (B.get "range") ce_int) (cg_n 2 O.nd) (css_cons (cs_set 3 O (ce_lst (ca_cons (co_val (ce_call F_q8 O D_q8.m D_q8.F.kp (bd_q8 D_q8) (ca_cons (co_slot 1) (ca_cons (co_val ce_int) ca_nil)))) (ca_cons (co_val ce_int) (ca_cons (co_val (ce_un ud_neg ce_int)) (ca_cons (co_val (ce_bin od_pow ce_int ce_int)) (ca_cons (co_val (ce_call F_q10 O D_q10.m D_q10.F.kp (bd_q10 D_q10) (ca_cons (co_slot 1) ca_nil))) ca_nil)))))))
    (css_cons (cs_setLc 4 [(("_law_again" : Str), 10)] O (ci_range1 (B.get "range") ce_int) (fun _ _ _ _ _ => (cg_n 10 O.blk.nd)) (fun _ _ _ _ _ => cts_nil) (fun _ _ _ _ _ => (co_val (ce_tup (ca_cons (co_val (ce_call F_q6 O.blk D_q6.m D_q6.F.kp (bd_q6 D_q6) (ca_cons (co_slot 1) (ca_cons (co_slot 3) ca_nil)))) (ca_cons (co_val (ce_call F_q10 O.blk D_q10.m D_q10.F.kp (bd_q10 D_q10) (ca_cons (co_slot 1) ca_nil))) ca_nil))))))
    (css_cons (cs_setLc 5 [(("_law_number" : Str), 13), (("_law_odd_here" : Str), 14)] O (ci_seq (co_slot 4)) (fun _ _ _ _ _ => (cg_t O.blk (cgs_cons (cg_n 13 O.blk.nd) (cgs_cons (cg_n 14 O.blk.nd) cgs_nil)))) (fun _ _ _ _ _ => cts_nil) (fun _ _ _ _ _ => (co_val (ce_callB (cd_reprZ O.blk) (B.get "repr") b_repr (ca_cons (ce_lst (ca_cons (co_val (ce_var 13)) (ca_cons (co_val (ce_var 14)) (ca_cons (co_val (ce_var 14)) (ca_cons (co_val (ce_var 14)) ca_nil))))) ca_nil)))))
    (css_cons (cs_setLc 6 [(("_law_number" : Str), 13), (("_law_odd_here" : Str), 14)] O (ci_seq (co_slot 4)) (fun _ _ _ _ _ => (cg_t O.blk (cgs_cons (cg_n 13 O.blk.nd) (cgs_cons (cg_n 14 O.blk.nd) cgs_nil)))) (fun _ _ _ _ _ => cts_nil) (fun _ _ _ _ _ => (co_val (ce_call F_q4 O.blk D_q4.m D_q4.F.kp (bd_q4 D_q4) (ca_cons (co_slot 13) (ca_cons (co_slot 14) ca_nil))))))
    (css_cons (cs_for O (ci_zip (B.get "zip") (ca_cons (co_fix 6) (ca_cons (co_fix 5) ca_nil))) (cg_t O (cgs_cons (cg_n 7 O.nd) (cgs_cons (cg_n 8 O.nd) cgs_nil))) (css_cons (cs_for O (ci_enum (B.get "enumerate") (ca_cons (co_fix 7) ca_nil)) (cg_t O (cgs_cons (cg_n 11 O.nd) (cgs_cons (cg_n 12 O.nd) cgs_nil))) (css_cons (cs_if (ct_w (cw_or (ct_not (ct_val (ce_isE er.kt (co_slot 12) (B.get "isinstance") er.mB))) (cw_or1 (ct_not (ct_val (ce_isEB "ValueError" er.kt (co_slot 12) (B.get "isinstance") er.vE rfl)))))) (css_one (cs_ret ce_bl)) css_nil)
    (css_one (cs_if (ct_cmp (od_ne O) (ce_call F_q7 O D_q7.m D_q7.F.kp (bd_q7 D_q7) (ca_cons (co_slot 12) ca_nil)) (ce_lc [(("_law_index" : Str), 15)] O (ci_range1 (B.get "range") ce_int) (fun _ _ _ _ _ => (cg_n 15 O.blk.nd)) (fun _ _ _ _ _ => cts_nil) (fun _ _ _ _ _ => (co_val (ce_cmp (od_eq O.blk) (co_slot 15) (co_slot 11)))))) (css_one (cs_ret ce_bl)) css_nil))))
    (css_cons (cs_set 9 O (ce_lst (ca_cons (co_val (ce_fldE er.xk (ce_sub (co_slot 7) ce_int))) (ca_cons (co_val (ce_fldE er.xk (ce_sub (co_slot 7) ce_int))) (ca_cons (co_val (ce_fldE er.xk (ce_sub (co_slot 7) ce_int))) (ca_cons (co_val (ce_fldE er.xk (ce_sub (co_slot 7) ce_int))) ca_nil))))))
    (css_one (cs_if (ct_cmp (od_ne O) (ce_callB (cd_reprZ O) (B.get "repr") b_repr (ca_cons (co_slot 9) ca_nil)) (co_slot 8)) (css_one (cs_ret ce_bl)) css_nil)))))
    (css_cons (cs_if (ct_cmp (od_ne O) (ce_lc [(("_law_number" : Str), 13), (("_law_odd_here" : Str), 14)] O (ci_seq (co_slot 4)) (fun _ _ _ _ _ => (cg_t O.blk (cgs_cons (cg_n 13 O.blk.nd) (cgs_cons (cg_n 14 O.blk.nd) cgs_nil)))) (fun _ _ _ _ _ => cts_nil) (fun _ _ _ _ _ => (co_val (ce_callB (cd_reprZ O.blk) (B.get "repr") b_repr (ca_cons (ce_lst (ca_cons (co_val (ce_var 13)) (ca_cons (co_val (ce_var 14)) (ca_cons (co_val (ce_var 14)) (ca_cons (co_val (ce_var 14)) ca_nil))))) ca_nil))))) (co_slot 5)) (css_one (cs_ret ce_bl)) css_nil)
    (css_one (cs_if (ct_not (ct_val (ce_newIs PySem.F.excBase_ValueError er.exB er.mB er.kB er.ecB er.ekB (B.get "isinstance") er.vE rfl))) (css_one (cs_ret ce_bl)) css_nil)))))))))
    (css_one (cs_ret ce_bl)))) hopen hlaw
end K02
namespace K02
open PySem PySem.Spec PyProof.Rows L2 Dk
theorem p_spread (as : List Dk.Arg) (pn : Option Pen) (Q : D → Option Pen → Prop) (h : spSpread as pn Q) : t_q5 { nx := fun ρ => Q .none ρ.pn, rt := Q } ⟨startD 6 as, pn⟩ := by
  obtain ⟨c, a, rfl, h0, h1, h⟩ := h
  unfold t_q5
  have k1 : CPow 10 18 := by decide
  have c0 : 0 ≤ c % 1000000007 := Int.emod_nonneg _ (by decide)
  have c1 : c % 1000000007 < 1000000007 := Int.emod_lt_of_pos _ (by decide)
  have e0 : 0 ≤ c % 65537 := Int.emod_nonneg _ (by decide)
  have e1 : c % 65537 < 65537 := Int.emod_lt_of_pos _ (by decide)
  have m := mul_bd (x := c % 1000000007) (y := 2 * a + 69069) (a := 1000000006) (b := 4295036363) c0 (by omega) (by omega) (by omega)
  have q0 : 0 ≤ a % 13 := Int.emod_nonneg _ (by decide)
  have q1 : a % 13 < 13 := Int.emod_lt_of_pos _ (by decide)
  have q2 : 0 ≤ (a + 5) % 13 := Int.emod_nonneg _ (by decide)
  have q3 : (a + 5) % 13 < 13 := Int.emod_lt_of_pos _ (by decide)
  have q4 : 0 ≤ (a + 7) % 13 := Int.emod_nonneg _ (by decide)
  have q5 : (a + 7) % 13 < 13 := Int.emod_lt_of_pos _ (by decide)
  simp [k1]
  split
  · exact h c
  · refine ⟨by decide, cm (by omega) (by omega) h0 (by omega), cm c0 (by omega) (by omega) (by omega), cm h0 (by omega) (by omega) (by omega), pow_bd (by decide) (by decide) (by omega) (by omega), gets_pr rfl q0 q1 fun p p0 p1 => ?_⟩
    generalize (c % 1000000007 * (2 * a + 69069) + a * 40503 + 977) ^ 3 = x1
    simp
    refine ⟨p0, ?_⟩
    have f0 : 0 ≤ x1 % p := Int.emod_nonneg _ (by omega)
    have f1 : x1 % p < p := Int.emod_lt_of_pos _ p0
    generalize x1 % p = y1 at f0 f1 ⊢
    have m2 := mul_bd (x := y1) (y := a + 3) (a := 2147483647) (b := 2147483650) f0 (by omega) (by omega) (by omega)
    refine ⟨cm (by omega) (by omega) (by omega) (by omega), pow_bd (by decide) (by decide) (by omega) (by omega), gets_pr rfl q2 q3 fun p2 p20 p21 => ?_⟩
    generalize (y1 * (a + 3) + c % 65537 + 5) ^ 5 = x2
    simp
    refine ⟨p20, ?_⟩
    have g0 : 0 ≤ x2 % p2 := Int.emod_nonneg _ (by omega)
    have g1 : x2 % p2 < p2 := Int.emod_lt_of_pos _ p20
    generalize x2 % p2 = y2 at g0 g1 ⊢
    have w0 : 0 ≤ y1 % 1009 := Int.emod_nonneg _ (by decide)
    have w1 : y1 % 1009 < 1009 := Int.emod_lt_of_pos _ (by decide)
    refine ⟨pow_bd (by decide) (by decide) (by omega) (by omega), gets_pr rfl q4 q5 fun p3 p30 p31 => ?_⟩
    generalize (y2 + y1 % 1009 + a) ^ 3 = x3
    simp
    refine ⟨p30, cm (by omega) (by omega) (by omega) (by omega), cm (by omega) (by omega) (by omega) (by omega), h _⟩
theorem p_take (as : List Dk.Arg) (pn : Option Pen) (Q : D → Option Pen → Prop) (h : spTake as pn Q) : t_q8 spSpread { nx := fun ρ => Q .none ρ.pn, rt := Q } ⟨startD 5 as, pn⟩ := by
  obtain ⟨p, n, b, rfl, rfl, ⟨b0, b1⟩, n0, n1, h⟩ := h
  unfold t_q8
  have k1 : CPow 10 17 := by decide
  have tail : ∀ c : Int, spSpread [.val (.int c), .val (.int p.at_)] (some ⟨p.cells, p.at_ + 1, p.cur⟩) fun d pn' => gets pn' fun p => gets (D.int? d) fun z => 0 < n ∧ CDivW z n ∧ Q (.int (z % n)) (some { cells := p.cells, at_ := p.at_, cur := z / n }) := fun c =>
    ⟨c, p.at_, rfl, b0, by omega, fun r => ⟨n0, cdiv n0 n1, h _ _ (Int.emod_nonneg _ (by omega)) (Int.emod_lt_of_pos _ n0) ⟨by show 0 ≤ p.at_ + 1; omega, by show p.at_ + 1 + b ≤ _; omega⟩⟩⟩
  have tl : ∀ d ∈ List.map PyData.int p.cells, ∃ c : Int, d = PyData.int c := fun d hd => by
    obtain ⟨c, _, rfl⟩ := List.mem_map.mp hd
    exact ⟨c, rfl⟩
  simp [k1]
  split
  · split
    · rename_i h3
      refine gets_at b0 (by simpa using h3) fun d hd => ?_
      obtain ⟨c, rfl⟩ := tl d hd
      exact tail c
    · split
      · rename_i h4
        refine ⟨cm b0 (by omega) (by decide) (by decide), h4, gets_at (Int.emod_nonneg _ (by omega)) (by rw [List.length_map]; exact Int.emod_lt_of_pos _ (by omega)) fun d hd => ?_⟩
        obtain ⟨c, rfl⟩ := tl d hd
        simp
        exact ⟨by omega, tail _⟩
      · exact tail 0
  · exact ⟨n0, cdiv n0 n1, h _ _ (Int.emod_nonneg _ (by omega)) (Int.emod_lt_of_pos _ n0) ⟨b0, by show p.at_ + b ≤ _; omega⟩⟩
theorem p_open (as : List Dk.Arg) (pn : Option Pen) (Q : D → Option Pen → Prop) (h : spOpen as pn Q) : t_q9 { nx := fun ρ => Q .none ρ.pn, rt := Q } ⟨startD 4 as, pn⟩ := by
  obtain ⟨ns, rfl, rfl, h⟩ := h
  unfold t_q9
  simp
  have e1 : cutD (ns.map PyData.int) none (some 12) = (ns.take 12).map .int := by rw [List.map_take]; exact cut0 _ 12
  have e2 : ∀ d ∈ cutD (ns.map PyData.int) (some 12) (some 63), (∃ z : Int, d = .int z) ∧ 12 < ns.length := fun d hd => by
    rw [show cutD (ns.map PyData.int) (some 12) (some 63) = _ from cutN _ 12 63] at hd
    have h1 := List.mem_of_mem_drop (List.mem_of_mem_take hd)
    obtain ⟨z, _, rfl⟩ := List.mem_map.mp h1
    refine ⟨⟨z, rfl⟩, ?_⟩
    have := List.length_pos_of_mem hd
    simp at this
    omega
  rw [e1]
  refine ⟨rfl, fun _ => ?_⟩
  refine forW_inv (fun i ρ => ∃ (cells : List Int) (x2 x3 : Sl), cells.length = min 12 ns.length ∧ ρ = ⟨[.scr ns, .own (cells.map .int), x2, x3], none⟩) ?_ ?_ ⟨ns.take 12, .un, .un, by simp, rfl⟩
  · rintro i d ρ hi ⟨cells, x2, x3, hc, rfl⟩ N hN
    rw [enumL_get] at hi
    obtain ⟨c, h1, h2⟩ := Option.map_eq_some_iff.mp hi
    obtain ⟨⟨z, rfl⟩, hl⟩ := e2 c (List.mem_of_getElem? h1)
    subst h2
    have j0 : (0 : Int) ≤ ((0 + i : Nat) : Int) % 12 := Int.emod_nonneg _ (by decide)
    have j1 : ((0 + i : Nat) : Int) % 12 < 12 := Int.emod_lt_of_pos _ (by decide)
    simp at j0 j1 ⊢
    refine gets_at j0 (by rw [List.length_map]; omega) fun e he => ?_
    obtain ⟨y, _, rfl⟩ := List.mem_map.mp he
    simp
    refine gets_ixN j0 (by omega) ?_
    exact hN _ ⟨cells.set ((i : Int) % 12).toNat (y + z), _, _, by simpa using hc, by rw [List.map_set]⟩
  · rintro ρ ⟨cells, x2, x3, hc, rfl⟩
    simp
    exact h cells
theorem p_one_of (as : List Dk.Arg) (pn : Option Pen) (Q : D → Option Pen → Prop) (h : spOneOf as pn Q) : t_q6 spTake { nx := fun ρ => Q .none ρ.pn, rt := Q } ⟨startD 2 as, pn⟩ := by
  obtain ⟨p, a, ds, b, rfl, ha, rfl, hb, hne, hl, h⟩ := h
  unfold t_q6
  have hpos : 0 < ds.length := List.length_pos_iff.mpr hne
  have key : ∀ (k : D → Option Pen → Prop), (∀ (i : Int) p', 0 ≤ i → i < ds.length → Bud p' b → k (.int i) (some p')) → spTake [.pen, .val (.int ds.length)] (some p) k := fun k hk => ⟨p, ds.length, b, rfl, rfl, hb, by omega, by omega, hk⟩
  cases a with
  | pen => cases ha
  | scr ns => cases ha
  | ref a => cases ha
  | bor xs =>
    cases ha
    simp
    refine key _ fun i p' h0 h1 hb' => ?_
    simp
    exact gets_at h0 h1 fun d hd => h d hd p' hb'
  | val d =>
    cases d with
    | list xs =>
      cases ha
      simp
      refine key _ fun i p' h0 h1 hb' => ?_
      simp
      exact gets_at h0 h1 fun d hd => h d hd p' hb'
    | tuple xs =>
      cases ha
      simp
      refine key _ fun i p' h0 h1 hb' => ?_
      simp
      exact gets_at h0 h1 fun d hd => h d hd p' hb'
    | _ => cases ha
end K02
namespace K02
open PySem PySem.Spec PyProof.Rows L2 Dk
theorem pick_R {α : Type} {g : α → D} {p : α → Prop} : ∀ {L : List D}, (∀ d ∈ L, ∃ a, d = g a ∧ p a) → ∃ as : List α, L = as.map g ∧ ∀ a ∈ as, p a
  | [], _ => ⟨[], rfl, fun a h => by cases h⟩
  | d :: L, h => by
    obtain ⟨as, rfl, ha⟩ := pick_R fun e he => h e (List.mem_cons_of_mem _ he)
    obtain ⟨a, rfl, hp⟩ := h d List.mem_cons_self
    exact ⟨a :: as, rfl, fun x hx => by
      rcases List.mem_cons.mp hx with rfl | hx
      · exact hp
      · exact ha x hx⟩
def errsL (ec : Ect) (p : D × D) : List D := [errD ec.c1 "node" p.1, errD ec.c2 "value" p.2, errD ec.c3 "value" p.2, errD ec.c4 "number" p.2]
def fourD (p : D × D) : D := .list [p.1, p.2, p.2, p.2]
def spAllOf (ec : Ect) : DSp := fun as pn P => ∃ p : D × D, as = [.val p.1, .val p.2] ∧ P (.list (errsL ec p)) pn
theorem p_all_of {ec : Ect} (as : List Dk.Arg) (pn : Option Pen) (Q : D → Option Pen → Prop) (h : spAllOf ec as pn Q) : t_q4 ec { nx := fun ρ => Q .none ρ.pn, rt := Q } ⟨startD 2 as, pn⟩ := by
  obtain ⟨⟨x, y⟩, rfl, h⟩ := h
  unfold t_q4
  simp -implicitDefEqProofs
  exact h
def cI (ec : Ect) (i : Nat) : Addr := if i = 0 then ec.c1 else if i = 1 then ec.c2 else if i = 2 then ec.c3 else ec.c4
def kindsD (i : Nat) : D := .list ((List.range 4).map fun j => .bool (decide (j = i)))
def spKinds (ec : Ect) : DSp := fun as pn P => ∃ (i : Nat) (f : Str) (x : D), as = [.val (errD (cI ec i) f x)] ∧ i < 4 ∧ P (kindsD i) pn
theorem p_kinds {ec : Ect} (ep : ErP ec) (as : List Dk.Arg) (pn : Option Pen) (Q : D → Option Pen → Prop) (h : spKinds ec as pn Q) : t_q7 ec { nx := fun ρ => Q .none ρ.pn, rt := Q } ⟨startD 2 as, pn⟩ := by
  obtain ⟨i, f, x, rfl, hi, h⟩ := h
  have hz : sizeLine = 16777216 := sizeLine_eq
  obtain ⟨a1, a2, a3, a4⟩ := ep.a1
  obtain ⟨b1, b2, b3, b4⟩ := ep.a2
  obtain ⟨d1, d2, d3, d4⟩ := ep.a3
  obtain ⟨e1, e2, e3, e4⟩ := ep.a4
  unfold t_q7
  have : i = 0 ∨ i = 1 ∨ i = 2 ∨ i = 3 := by omega
  rcases this with rfl | rfl | rfl | rfl
  · simp -implicitDefEqProofs [cI, a1, a2, a3, a4]
    exact ⟨by omega, h⟩
  · simp -implicitDefEqProofs [cI, b1, b2, b3, b4]
    exact ⟨by omega, h⟩
  · simp -implicitDefEqProofs [cI, d1, d2, d3, d4]
    exact ⟨by omega, h⟩
  · simp -implicitDefEqProofs [cI, e1, e2, e3, e4]
    exact ⟨by omega, h⟩
def numL : List D := (List.range 25).map (fun k : Nat => .int (k : Nat)) ++ [.int (-1), .int 100000000000000000000] ++ oddL
theorem num_vw : ∀ d ∈ numL, Vw 100 5 d := fun d h => Vw.of (List.all_eq_true.mp (show (numL.all (vw 100 5)) = true by decide +kernel) d h)
theorem strOk_l {x : Str} (h : ∀ c ∈ cod x, c < 1114112) : PyData.strOk x = true := by
  unfold PyData.strOk
  rw [← Array.all_toList]
  exact List.all_eq_true.mpr fun c hc => decide_eq_true (h c hc)
theorem char_lt (c : Char) : c.toNat < 1114112 := by
  have h := c.valid
  unfold UInt32.isValidChar Nat.isValidChar at h
  show c.val.toNat < _
  omega
theorem body_ok : ∀ {ts : List Str}, (∀ t ∈ ts, ∀ c ∈ cod t, c < 1114112) → (∀ c ∈ bodyT ts, c < 1114112) ∧ ∀ c ∈ tailT ts, c < 1114112
  | [], _ => ⟨fun c h => by simp [bodyT] at h, fun c h => by simp [tailT] at h⟩
  | t :: ts, h => by
    have h1 := h t List.mem_cons_self
    have h2 := (body_ok fun x hx => h x (List.mem_cons_of_mem _ hx)).2
    refine ⟨fun c hc => ?_, fun c hc => ?_⟩
    · simp only [bodyT, List.mem_append] at hc
      rcases hc with hc | hc
      · exact h1 c hc
      · exact h2 c hc
    · simp [tailT] at hc
      rcases hc with rfl | rfl | hc | hc
      · decide
      · decide
      · exact h1 c hc
      · exact h2 c hc
mutual
def okD : D → Bool
  | .none => true
  | .bool _ => true
  | .int _ => true
  | .str x => (cod (PyData.shown (.str x))).all fun c => decide (c < 1114112)
  | .list ds => okA ds
  | .tuple ds => okA ds
  | .dict [] => true
  | .dict _ => false
def okA : List D → Bool
  | [] => true
  | d :: ds => okD d && okA ds
end
mutual
theorem okD_ok : ∀ d : D, okD d = true → ∀ c ∈ cod d.shown, c < 1114112
  | .none, _, c, hc => by rw [cod_none] at hc; revert c; decide
  | .bool true, _, c, hc => by rw [cod_true] at hc; revert c; decide
  | .bool false, _, c, hc => by rw [cod_false] at hc; revert c; decide
  | .int i, _, c, hc => by
    rw [cod_int] at hc
    obtain ⟨x, _, rfl⟩ := List.mem_map.mp hc
    exact char_lt x
  | .str x, h, c, hc => by
    rw [okD] at h
    exact of_decide_eq_true (List.all_eq_true.mp h c hc)
  | .list ds, h, c, hc => by
    rw [okD] at h
    rw [cod_list] at hc
    have := (body_ok (okA_ok ds h)).1
    simp only [List.mem_cons, List.mem_append, List.not_mem_nil, or_false] at hc
    rcases hc with rfl | hc | rfl
    · decide
    · exact this c hc
    · decide
  | .tuple ds, h, c, hc => by
    rw [okD] at h
    rw [cod_tuple] at hc
    have := (body_ok (okA_ok ds h)).1
    rw [List.mem_cons, List.mem_append] at hc
    rcases hc with rfl | hc | hc
    · decide
    · exact this c hc
    · split at hc
      · revert c; decide
      · revert c; decide
  | .dict [], _, c, hc => by
    have e : cod (PyData.shown (.dict [])) = [123, 125] := by show cod (Str.ofString "{}") = _; decide
    rw [e] at hc
    revert c; decide
  | .dict (_ :: _), h, c, hc => by rw [okD] at h; cases h; intro x; cases x
theorem okA_ok : ∀ ds : List D, okA ds = true → ∀ t ∈ PyData.shownAll ds, ∀ c ∈ cod t, c < 1114112
  | [], _, t, ht => by simp [PyData.shownAll] at ht
  | d :: ds, h, t, ht => by
    rw [okA, Bool.and_eq_true] at h
    rw [shownAll_cons] at ht
    rcases List.mem_cons.mp ht with rfl | ht
    · exact okD_ok d h.1
    · exact okA_ok ds h.2 t ht
end
theorem num_ok : numL.all okD = true := by decide +kernel
theorem odd_ok : oddL.all okD = true := by decide +kernel
def PrE (p : D × D) : Prop := p.1 ∈ numL ∧ p.2 ∈ oddL
theorem four_str {p : D × D} (h : PrE p) : PyData.strOk (fourD p).shown = true := by
  have h1 := List.all_eq_true.mp num_ok p.1 h.1
  have h2 := List.all_eq_true.mp odd_ok p.2 h.2
  refine strOk_l (okD_ok (fourD p) ?_)
  unfold fourD
  rw [okD, okA, okA, okA, okA, okA, h1, h2]
  rfl
theorem num_int {z : Int} (h0 : 0 ≤ z) (h1 : z < 24) : PyData.int z ∈ numL := by
  refine List.mem_append_left _ (List.mem_append_left _ (List.mem_map.mpr ⟨z.toNat, List.mem_range.mpr (by omega), ?_⟩))
  rw [Int.toNat_of_nonneg h0]
def spOddM : DSp := fun as pn P => ∃ (p : Pen) (b : Nat), as = [.pen] ∧ pn = some p ∧ Bud p (b + 1) ∧ ∀ d p', d ∈ oddL → Bud p' b → P d (some p')
theorem p_oddM (as : List Dk.Arg) (pn : Option Pen) (Q : D → Option Pen → Prop) (h : spOddM as pn Q) : t_q10 spOneOf { nx := fun ρ => Q .none ρ.pn, rt := Q } ⟨startD 2 as, pn⟩ := by
  obtain ⟨p, b, rfl, rfl, hb, h⟩ := h
  unfold t_q10
  have k1 : CPow 10 6 := by decide
  have k2 : CPow 10 30 := by decide
  simp -implicitDefEqProofs [k1, k2]
  refine ⟨by decide, ⟨p, _, oddL, b, rfl, rfl, rfl, hb, by decide, by decide, fun d hd p' hb' => h d p' hd hb'⟩⟩
theorem four_rep {p : D × D} (h : PrE p) : reprOkZ (fourD p) := by
  have h1 := num_vw _ h.1
  have h2 := odd_vw _ h.2
  refine Vz.repr (W := 1000) (h := 10) (Vz.all (t := false) (xs := [p.1, p.2, p.2, p.2]) (fun d hd => ?_) ?_ (fun d hd => ?_) (by decide)) (by decide) (by decide)
  · simp only [List.mem_cons, List.not_mem_nil, or_false] at hd
    rcases hd with rfl | rfl | rfl | rfl
    · exact h1.sh
    · exact h2.sh
    · exact h2.sh
    · exact h2.sh
  · rw [wgts_cons, wgts_cons, wgts_cons, wgts_cons, wgts_nil]
    have := h1.w
    have := h2.w
    omega
  · have := h1.dp
    have := h2.dp
    simp only [List.mem_cons, List.not_mem_nil, or_false] at hd
    rcases hd with rfl | rfl | rfl | rfl <;> omega
theorem errs_at {ec : Ect} {p : D × D} {i : Nat} {d : D} (h : (errsL ec p)[i]? = some d) : i < 4 ∧ ∃ f x, d = errD (cI ec i) f x := by
  have hi : i < 4 := (List.getElem?_eq_some_iff.mp h).1
  refine ⟨hi, ?_⟩
  have : i = 0 ∨ i = 1 ∨ i = 2 ∨ i = 3 := by omega
  rcases this with rfl | rfl | rfl | rfl <;> (cases h; exact ⟨_, _, rfl⟩)
theorem kt_b {ec : Ect} (ep : ErP ec) {i : Nat} (h : i < 4) : ec.kt (.ref ec.cB) (cI ec i) = some true ∧ ec.kt (.type "ValueError") (cI ec i) = some true := by
  obtain ⟨b1, b2, b3, b4⟩ := ep.b
  obtain ⟨v1, v2, v3, v4⟩ := ep.v
  have : i = 0 ∨ i = 1 ∨ i = 2 ∨ i = 3 := by omega
  rcases this with rfl | rfl | rfl | rfl
  · exact ⟨b1, v1⟩
  · exact ⟨b2, v2⟩
  · exact ⟨b3, v3⟩
  · exact ⟨b4, v4⟩
theorem pairs_eq (ec : Ect) (ps : List (D × D)) : pairL (ps.map fun p => .list (errsL ec p)) (ps.map fun p => .str (fourD p).shown) = ps.map fun p => .tuple [.list (errsL ec p), .str (fourD p).shown] := by
  rw [pairL_zip, List.zip_map', List.map_map]
  rfl
theorem kinds_same : ∀ j < 4, eqOk (kindsD j) (kindsD j) = true ∧ PyData.eqv (kindsD j) (kindsD j) = true := by decide +kernel
theorem strs_ok {x y : Str} (hx : PyData.strOk x = true) (hy : PyData.strOk y = true) : eqOk (.list [.str x, .str y]) (.list [.str x, .str y]) = true := by
  have h : SeqAt.shaped (.list [.str x, .str y]) = true := by
    unfold SeqAt.shaped
    have h1 : PyData.canLay0 (.list [.str x, .str y]) = true := by
      rw [PyData.canLay0, PyData.canLayAll0, PyData.canLayAll0, PyData.canLayAll0, PyData.canLay0, PyData.canLay0, hx, hy]
      rfl
    rw [h1]
    simp [PyData.depth, PyData.depthAll]
  unfold eqOk
  rw [h]
  simp
theorem w_3 {ec : Ect} (ep : ErP ec) {ps : List (D × D)} (hp : ∀ p ∈ ps, PrE p) (h2 : ps.length = 2) {E : DE} {x2 x3 x7 x8 x9 x11 x12 : Sl} {q : Pen}
    (h : ∀ x4 x5 x6 x7 x8 x9 x11 x12, E.nx ⟨[.un, .pen, x2, x3, x4, x5, x6, x7, x8, x9, .un, x11, x12, .un, .un, .un], some q⟩) :
    u2_4 ec spTake spOddM spOneOf (spAllOf ec) (spKinds ec) E ⟨[.un, .pen, x2, x3, .own (ps.map fun p => .tuple [p.1, p.2]), .own (ps.map fun p => .str (fourD p).shown), .own (ps.map fun p => .list (errsL ec p)), x7, x8, x9, .un, x11, x12, .un, .un, .un], some q⟩ := by
  have hz : sizeLine = 16777216 := sizeLine_eq
  unfold u2_4
  simp -implicitDefEqProofs [wipeD]
  rw [pairs_eq]
  refine ⟨⟨rfl, rfl⟩, fun _ => ?_⟩
  refine forW_inv (fun i ρ => ∃ x7 x8 x9 x11 x12, ρ = ⟨[.un, .pen, x2, x3, .own (ps.map fun p => .tuple [p.1, p.2]), .val (.list (ps.map fun p => .str (fourD p).shown)), .val (.list (ps.map fun p => .list (errsL ec p))), x7, x8, x9, .un, x11, x12, .un, .un, .un], some q⟩) ?_ ?_ ⟨_, _, _, _, _, rfl⟩
  · rintro i d ρ hd ⟨x7, x8, x9, x11, x12, rfl⟩ N hN
    rw [List.getElem?_map] at hd
    obtain ⟨p, hpi, rfl⟩ := Option.map_eq_some_iff.mp hd
    have sp := hp p (List.mem_of_getElem? hpi)
    simp -implicitDefEqProofs [wipeD]
    refine ⟨rfl, fun _ => ?_⟩
    refine forW_inv (fun j ρ => ∃ x11 x12, ρ = ⟨[.un, .pen, x2, x3, .own (ps.map fun p => .tuple [p.1, p.2]), .val (.list (ps.map fun p => .str (fourD p).shown)), .val (.list (ps.map fun p => .list (errsL ec p))), .val (.list (errsL ec p)), .val (.str (fourD p).shown), x9, .un, x11, x12, .un, .un, .un], some q⟩) ?_ ?_ ⟨_, _, rfl⟩
    · rintro j d ρ hj ⟨x11, x12, rfl⟩ N2 hN2
      rw [enumL_get] at hj
      obtain ⟨e, he, rfl⟩ := Option.map_eq_some_iff.mp hj
      obtain ⟨h4, f, x, rfl⟩ := errs_at he
      obtain ⟨kb, kv⟩ := kt_b ep h4
      simp -implicitDefEqProofs [wipeD, kb, kv]
      refine ⟨j, f, x, rfl, h4, ?_⟩
      simp -implicitDefEqProofs [wipeD]
      intro _
      refine lcW_mapB (ts := List.range 4) (fun t : Nat => .int (t : Nat)) (fun t => decide (t = j)) rfl rfl (fun t ht M hM => ?_) ?_
      · simp -implicitDefEqProofs [wipeD]
        rw [show (((t : Nat) : Int) == ((j : Nat) : Int)) = decide (t = j) by rw [Bool.eq_iff_iff, beq_iff_eq, decide_eq_true_eq]; omega]
        exact hM
      · simp -implicitDefEqProofs [unwipe, keepV, wipeD]
        have k0 := kinds_same j h4
        refine ⟨k0.1, ?_⟩
        rw [if_pos (show PyData.eqv (kindsD j) (PyData.list ((List.range 4).map (PyData.bool ∘ fun t => decide (t = j)))) = true from k0.2)]
        exact hN2 _ ⟨_, _, rfl⟩
    · rintro ρ ⟨x11, x12, rfl⟩
      unfold u1_1
      simp -implicitDefEqProofs [wipeD, errsL, ep.x]
      rw [show (2 : Int) = ((2 : Nat) : Int) from rfl, atR (n := 2) rfl]
      simp -implicitDefEqProofs [ep.x]
      rw [show (3 : Int) = ((3 : Nat) : Int) from rfl, atR (n := 3) rfl]
      simp -implicitDefEqProofs [ep.x]
      unfold u1_2
      simp -implicitDefEqProofs [wipeD]
      refine ⟨four_rep sp, rfl, ?_⟩
      rw [if_pos (show (PyData.str (PyData.list [p.1, p.2, p.2, p.2]).shown).eqv (PyData.str (PyData.shown (fourD p))) = true by show (PyData.str (fourD p).shown).eqv (PyData.str (fourD p).shown) = true; simp [PyData.eqv])]
      exact hN _ ⟨_, _, _, _, _, rfl⟩
  · rintro ρ ⟨x7, x8, x9, x11, x12, rfl⟩
    unfold u2_5
    simp -implicitDefEqProofs [wipeD, -List.map_map]
    intro _
    refine lcW_map (ts := ps) (fun p => .tuple [p.1, p.2]) (fun p => .str (fourD p).shown) rfl rfl (fun p hp2 N hN => ?_) ?_
    · simp -implicitDefEqProofs [wipeD]
      exact ⟨four_rep (hp p hp2), hN⟩
    · simp -implicitDefEqProofs [unwipe, keepV, wipeD, -List.map_map]
      match ps, h2 with
      | [a, b], _ =>
        refine ⟨strs_ok (four_str (hp a (by simp))) (four_str (hp b (by simp))), ?_⟩
        rw [if_pos (by simp [PyData.eqv, PyData.eqvAll])]
        unfold u2_6
        simp -implicitDefEqProofs [wipeD]
        exact h _ _ _ _ _ _ _ _
theorem w_1 {ec : Ect} (ep : ErP ec) {nums : List D} (hn : ∀ d ∈ nums, d ∈ numL) (n0 : nums ≠ []) (n5 : nums.length ≤ 5) {E : DE} {x2 x4 x5 x6 x7 x8 x9 x11 x12 : Sl} {p : Pen} {b : Nat} (hb : Bud p (b + 4))
    (h : ∀ x3 x4 x5 x6 x7 x8 x9 x11 x12 q, Bud q b → E.nx ⟨[.un, .pen, x2, x3, x4, x5, x6, x7, x8, x9, .un, x11, x12, .un, .un, .un], some q⟩) :
    u2_1 ec spTake spOddM spOneOf (spAllOf ec) (spKinds ec) E ⟨[.un, .pen, x2, .own nums, x4, x5, x6, x7, x8, x9, .un, x11, x12, .un, .un, .un], some p⟩ := by
  have hz : sizeLine = 16777216 := sizeLine_eq
  unfold u2_1
  simp -implicitDefEqProofs [wipeD]
  intro _
  refine lcW_draw (fun d => ∃ p : D × D, d = .tuple [p.1, p.2] ∧ PrE p) 2 b 2 (by simp [rangeD_len]) rfl (bud_le hb (by omega)) (fun i d hi q b' hq hb' N hN => ?_) (fun acc q hl hR hq => ?_)
  · simp -implicitDefEqProofs [wipeD]
    refine ⟨q, _, nums, b' + 1, rfl, rfl, rfl, hq, n0, by omega, fun d1 hd1 q1 hq1 => ?_⟩
    simp -implicitDefEqProofs [wipeD]
    refine ⟨q1, b', rfl, rfl, hq1, fun o q2 ho hq2 => ?_⟩
    simp -implicitDefEqProofs [wipeD]
    exact hN _ _ ⟨(d1, o), rfl, hn d1 hd1, ho⟩ hq2
  · obtain ⟨ps, rfl, hp⟩ := pick_R hR
    rw [List.length_map] at hl
    simp -implicitDefEqProofs [unwipe, keepV, wipeD, -List.map_map]
    unfold u2_2
    simp -implicitDefEqProofs [wipeD, -List.map_map]
    intro _
    refine lcW_map (ts := ps) (fun p => .tuple [p.1, p.2]) (fun p => .str (fourD p).shown) rfl rfl (fun p hp2 N hN => ?_) ?_
    · simp -implicitDefEqProofs [wipeD]
      exact ⟨four_rep (hp p hp2), hN⟩
    · simp -implicitDefEqProofs [unwipe, keepV, wipeD, -List.map_map]
      unfold u2_3
      simp -implicitDefEqProofs [wipeD, -List.map_map]
      intro _
      refine lcW_map (ts := ps) (fun p => .tuple [p.1, p.2]) (fun p => .list (errsL ec p)) rfl rfl (fun p hp2 N hN => ?_) ?_
      · simp -implicitDefEqProofs [wipeD]
        refine ⟨p, rfl, ?_⟩
        simp -implicitDefEqProofs [wipeD]
        exact hN
      · simp -implicitDefEqProofs [unwipe, keepV, wipeD, -List.map_map]
        exact w_3 ep hp hl fun x4 x5 x6 x7 x8 x9 x11 x12 => h _ _ _ _ _ _ _ _ _ q hq
theorem p_law {ec : Ect} (ep : ErP ec) (cells : List Int) : t_law ec spTake spOddM spOneOf (spAllOf ec) (spKinds ec) { nx := fun _ => False, rt := fun d _ => d = .bool true } ⟨law0 16, some ⟨cells, 0, 0⟩⟩ := by
  unfold t_law
  have hz : sizeLine = 16777216 := sizeLine_eq
  have k1 : CPow 10 20 := by decide
  simp -implicitDefEqProofs [law0]
  intro _
  refine forW_inv (fun t ρ => ∃ (x2 x3 x4 x5 x6 x7 x8 x9 x11 x12 : Sl) (q : Pen), ρ = ⟨[.un, .pen, x2, x3, x4, x5, x6, x7, x8, x9, .un, x11, x12, .un, .un, .un], some q⟩ ∧ t ≤ 3 ∧ Bud q (100 * (3 - t))) ?_ ?_ ⟨_, _, _, _, _, _, _, _, _, _, _, rfl, by decide, ⟨Int.le_refl 0, show (0 : Int) + ((100 * (3 - 0) : Nat) : Int) ≤ 2147483648 by decide⟩⟩
  · rintro t d ρ ht ⟨x2, x3, x4, x5, x6, x7, x8, x9, x11, x12, pn, rfl, _, hpn⟩ N hN
    obtain ⟨htlt, rfl⟩ := rangeD_get ht
    simp -implicitDefEqProofs [k1]
    refine ⟨pn, 24, 100 * (3 - (t + 1)) + 90, rfl, rfl, bud_le hpn (by omega), by decide, by decide, fun z p1 z0 z1 hp1 => ?_⟩
    refine ⟨p1, 100 * (3 - (t + 1)) + 80, rfl, rfl, bud_le hp1 (by omega), fun o p2 ho hp2 => ?_⟩
    have hnum : ∀ d ∈ ([.int z, .int 24, .int (-1), .int 100000000000000000000, o] : List D), d ∈ numL := fun d hd => by
      simp only [List.mem_cons, List.not_mem_nil, or_false] at hd
      rcases hd with rfl | rfl | rfl | rfl | rfl
      · exact num_int z0 (by omega)
      · exact List.mem_append_left _ (List.mem_append_left _ (List.mem_map.mpr ⟨24, by decide, rfl⟩))
      · exact List.mem_append_left _ (List.mem_append_right _ (by simp))
      · exact List.mem_append_left _ (List.mem_append_right _ (by simp))
      · exact List.mem_append_right _ ho
    refine w_1 ep hnum (by simp) (by simp) (b := 100 * (3 - (t + 1))) (bud_le hp2 (by omega)) fun x3 x4 x5 x6 x7 x8 x9 x11 x12 q hq => ?_
    exact hN _ ⟨_, _, _, _, _, _, _, _, _, _, q, rfl, by omega, hq⟩
  · rintro ρ ⟨x2, x3, x4, x5, x6, x7, x8, x9, x11, x12, q, rfl, _, hq⟩
    simp -implicitDefEqProofs
end K02
set_option maxHeartbeats 0
namespace K02
open PySem PySem.Spec PyProof.Rows L2 Dk
theorem allF {P : Program} {w : World} {K : Fg} {mg : Str → Option Value} {base : Heap} {f_q9 : Addr} {fd_q9 : FuncData} {f_q5 : Addr} {fd_q5 : FuncData} {f_q8 : Addr} {fd_q8 : FuncData} {f_q6 : Addr} {fd_q6 : FuncData} {f_q10 : Addr} {fd_q10 : FuncData} {f_q4 : Addr} {fd_q4 : FuncData} {f_q7 : Addr} {fd_q7 : FuncData} {f_law : Addr} {fd_law : FuncData}  {ec : Ect} {f_q3 : Addr} {fd_q3 : FuncData} {f_q2 : Addr} {fd_q2 : FuncData} {f_q0 : Addr} {fd_q0 : FuncData} {f_q1 : Addr} {fd_q1 : FuncData}
    (B : Blt mg)  (D_q9 : Dfn K mg "_law_open" S_q9 f_q9 fd_q9) (D_q5 : Dfn K mg "_law_spread" S_q5 f_q5 fd_q5) (D_q8 : Dfn K mg "_law_take" S_q8 f_q8 fd_q8) (D_q6 : Dfn K mg "_law_one_of" S_q6 f_q6 fd_q6) (D_q10 : Dfn K mg "_law_odd" S_q10 f_q10 fd_q10) (D_q4 : Dfn K mg "_law_all_of" S_q4 f_q4 fd_q4) (D_q7 : Dfn K mg "_law_kinds" S_q7 f_q7 fd_q7) (D_law : Dfn K mg "law" S_law f_law fd_law)  (er : ER K mg ec f_q3 f_q2 f_q0 f_q1) (ep : ErP ec) (D_q3 : DfnM K "__init__" "TooMany.__init__" S_q3 f_q3 fd_q3) (D_q2 : DfnM K "__init__" "InvalidMix.__init__" S_q2 f_q2 fd_q2) (D_q0 : DfnM K "__init__" "InvalidChange.__init__" S_q0 f_q0 fd_q0) (D_q1 : DfnM K "__init__" "UnknownMark.__init__" S_q1 f_q1 fd_q1) : FnG P w K mg base CX0 5 f_law fd_law P_law (spLaw K) := by
  have ef : ErF P w K mg base ec f_q3 f_q2 f_q0 f_q1 fd_q3 fd_q2 fd_q0 fd_q1 := ⟨fun k => ok_q3 D_q3 er.e1.nc er.mB er.bi, fun k => ok_q2 D_q2 er.e2.nc er.mB er.bi, fun k => ok_q0 D_q0 er.e3.nc er.mB er.bi, fun k => ok_q1 D_q1 er.e4.nc er.mB er.bi, bd_q3 D_q3, bd_q2 D_q2, bd_q0 D_q0, bd_q1 D_q1⟩
  have F_q9 : FnD P w K mg base 1 f_q9 fd_q9 P_q9 (spOpen) := ok_q9 (k := 0) B D_q9     fun as pn Q _ h => p_open as pn Q h
  have F_q5 : FnD P w K mg base 1 f_q5 fd_q5 P_q5 (spSpread) := ok_q5 (k := 0) B D_q5     fun as pn Q _ h => p_spread as pn Q h
  have F_q8 : FnD P w K mg base 2 f_q8 fd_q8 P_q8 (spTake) := ok_q8 (k := 1) B D_q8   D_q5 (FnG.mono (F_q5) (by omega)) fun as pn Q _ h => p_take as pn Q h
  have F_q6 : FnD P w K mg base 3 f_q6 fd_q6 P_q6 (spOneOf) := ok_q6 (k := 2) B D_q6   D_q8 (FnG.mono (F_q8) (by omega)) fun as pn Q _ h => p_one_of as pn Q h
  have F_q10 : FnD P w K mg base 4 f_q10 fd_q10 P_q10 (spOddM) := ok_q10 (k := 3) B D_q10   D_q6 (FnG.mono (F_q6) (by omega)) fun as pn Q _ h => p_oddM as pn Q h
  have F_q4 : FnD P w K mg base 3 f_q4 fd_q4 P_q4 (spAllOf ec) := ok_q4 (k := 0) B D_q4  er ef    fun as pn Q _ h => p_all_of as pn Q h
  have F_q7 : FnD P w K mg base 1 f_q7 fd_q7 P_q7 (spKinds ec) := ok_q7 (k := 0) B D_q7  er    fun as pn Q _ h => (p_kinds ep) as pn Q h
  exact ok_law (k := 4) B D_law  er  D_q9 D_q8 D_q10 D_q6 D_q4 D_q7 (FnG.mono (F_q9) (by omega)) (FnG.mono (F_q8) (by omega)) (FnG.mono (F_q10) (by omega)) (FnG.mono (F_q6) (by omega)) (FnG.mono (F_q4) (by omega)) (FnG.mono (F_q7) (by omega)) (fun ns Q h => ⟨ns, rfl, rfl, h⟩) (p_law ep)
theorem says_fact {K : PySem.W.Frag} (c : He.SaysD fa fn K) {f : He.Fa} (h : f ∈ fa) : f.ok K = true := by
  have c1 := (He.ba (show ((fa.all fun f => f.ok K) && fn.all fun d => d.ok K) = true from congrArg (fun z : He.AlD => z.1) c)).1
  exact List.all_eq_true.mp c1 f h
theorem says_glo {K : PySem.W.Frag} {h : Heap} {mg : Str → Option Value} (X : K.In h) (G : h.Ns mainGlobals mg) (c : He.SaysD fa fn K) (x : Str) (hx : x ∈ gl) : mg x = some (.ref (He.ga K x)) :=
  He.glo_ok X G (says_fact c (List.mem_append_left _ (List.mem_map.mpr ⟨x, hx, rfl⟩)))
theorem facts {P : Program} {w : World} {K : PySem.W.Frag} {h : Heap} {mg : Str → Option Value} {f : Addr} (X : K.In h) (G : h.Ns mainGlobals mg) (hfa : mg ("law" : Str) = some (.ref f)) (cc : He.SaysX fa fn [] tf (Dk.exER) w h K) :
    ∃ fd : FuncData, (∀ (s : Shared) (v : Value), BindsTo s fd ⟨[v], []⟩ [("_law_script", v)]) ∧ ∀ base : Heap, K.In base → base.Ns mainGlobals mg → FnG P w K mg base CX0 5 f fd ["_law_script"] (spLaw K) := by
  have c : He.SaysD fa fn K := cc.t.d
  have B : Blt mg := fun x hx => He.free_ok X G (says_fact c (List.mem_append_right _ (List.mem_append_left _ (List.mem_map.mpr ⟨x, hx, rfl⟩))))
  obtain ⟨fd_q9, H_law_open⟩ := c.def_ 0 (d := dd_q9) rfl
  have D_q9 : Dfn K mg "_law_open" S_q9 (He.ga K "_law_open") fd_q9 := ⟨H_law_open, says_glo X G c "_law_open" (by unfold gl; simp)⟩
  obtain ⟨fd_q5, H_law_spread⟩ := c.def_ 1 (d := dd_q5) rfl
  have D_q5 : Dfn K mg "_law_spread" S_q5 (He.ga K "_law_spread") fd_q5 := ⟨H_law_spread, says_glo X G c "_law_spread" (by unfold gl; simp)⟩
  obtain ⟨fd_q8, H_law_take⟩ := c.def_ 2 (d := dd_q8) rfl
  have D_q8 : Dfn K mg "_law_take" S_q8 (He.ga K "_law_take") fd_q8 := ⟨H_law_take, says_glo X G c "_law_take" (by unfold gl; simp)⟩
  obtain ⟨fd_q6, H_law_one_of⟩ := c.def_ 3 (d := dd_q6) rfl
  have D_q6 : Dfn K mg "_law_one_of" S_q6 (He.ga K "_law_one_of") fd_q6 := ⟨H_law_one_of, says_glo X G c "_law_one_of" (by unfold gl; simp)⟩
  obtain ⟨fd_q10, H_law_odd⟩ := c.def_ 4 (d := dd_q10) rfl
  have D_q10 : Dfn K mg "_law_odd" S_q10 (He.ga K "_law_odd") fd_q10 := ⟨H_law_odd, says_glo X G c "_law_odd" (by unfold gl; simp)⟩
  obtain ⟨fd_q4, H_law_all_of⟩ := c.def_ 5 (d := dd_q4) rfl
  have D_q4 : Dfn K mg "_law_all_of" S_q4 (He.ga K "_law_all_of") fd_q4 := ⟨H_law_all_of, says_glo X G c "_law_all_of" (by unfold gl; simp)⟩
  obtain ⟨fd_q7, H_law_kinds⟩ := c.def_ 6 (d := dd_q7) rfl
  have D_q7 : Dfn K mg "_law_kinds" S_q7 (He.ga K "_law_kinds") fd_q7 := ⟨H_law_kinds, says_glo X G c "_law_kinds" (by unfold gl; simp)⟩
  obtain ⟨fd_q3, H_TooMany_init⟩ := c.def_ 8 (d := dd_q3) rfl
  have D_q3 : DfnM K "__init__" "TooMany.__init__" S_q3 (He.ma K (He.ga K "TooMany") "__init__") fd_q3 := ⟨H_TooMany_init⟩
  obtain ⟨fd_q2, H_InvalidMix_init⟩ := c.def_ 9 (d := dd_q2) rfl
  have D_q2 : DfnM K "__init__" "InvalidMix.__init__" S_q2 (He.ma K (He.ga K "InvalidMix") "__init__") fd_q2 := ⟨H_InvalidMix_init⟩
  obtain ⟨fd_q0, H_InvalidChange_init⟩ := c.def_ 10 (d := dd_q0) rfl
  have D_q0 : DfnM K "__init__" "InvalidChange.__init__" S_q0 (He.ma K (He.ga K "InvalidChange") "__init__") fd_q0 := ⟨H_InvalidChange_init⟩
  obtain ⟨fd_q1, H_UnknownMark_init⟩ := c.def_ 11 (d := dd_q1) rfl
  have D_q1 : DfnM K "__init__" "UnknownMark.__init__" S_q1 (He.ma K (He.ga K "UnknownMark") "__init__") fd_q1 := ⟨H_UnknownMark_init⟩
  obtain ⟨er, ep⟩ := exER_ok cc.more (says_glo X G c "TooMany" (by unfold gl; simp)) (says_glo X G c "InvalidMix" (by unfold gl; simp)) (says_glo X G c "InvalidChange" (by unfold gl; simp)) (says_glo X G c "UnknownMark" (by unfold gl; simp)) (says_glo X G c "PriceplansError" (by unfold gl; simp)) (He.free_ok X G (says_fact c (List.mem_append_right _ (List.mem_append_right _ (by simp)))))
  obtain ⟨fd, F⟩ := c.def_ 7 (d := dd_law) rfl
  have e := hfa.symm.trans (says_glo X G c "law" (by unfold gl; simp))
  cases e
  have b := FunD.bindsA (ps := ["_law_script"]) F fun _ _ _ _ _ _ us hl => match us, hl with | [_], _ => rfl
  have D_law : Dfn K mg "law" S_law (He.ga K "law") fd := ⟨F, says_glo X G c "law" (by unfold gl; simp)⟩
  exact ⟨fd, fun s v => b s [v] rfl, fun base _ _ => allF B  D_q9 D_q5 D_q8 D_q6 D_q10 D_q4 D_q7 D_law  er ep D_q3 D_q2 D_q0 D_q1⟩
end K02
open PySem PySem.W PySem.Calls PyProof.Rows
theorem PySem.Challenge.cw_priceplans_k02_errors_by_hand_holds : PySem.Challenge.rw_priceplans_k02_errors_by_hand.Holds := by
  w_on; o_law
  refine HandSHeadRun.head_any (r := OpenLaw.row PySem.Challenge.rw_priceplans_k02_errors_by_hand) (q := view (OpenLaw.row PySem.Challenge.rw_priceplans_k02_errors_by_hand).prog [14]) (H := K02.hk) (ob := K02.ob) (M := 4000) (loose := (["PriceplansError", "TooMany", "InvalidMix", "InvalidChange", "UnknownMark", "_law_open", "_law_spread", "_law_take", "_law_one_of", "_law_odd", "_law_all_of", "_law_kinds"] : List PySem.Str)) (d := HandSHeadRun.topDef (OpenLaw.row PySem.Challenge.rw_priceplans_k02_errors_by_hand).prog 14) (kwd := []) K02.ob_eq
    (by kernel_rfl) (fun s => by kernel_rfl) K02.run (by kernel_rfl) (by kernel_rfl) (by kernel_rfl) (by rfl) (by first | assumption | decide +kernel) (by decide +kernel) ⟨rfl, rfl, rfl, rfl, rfl, by decide +kernel⟩ ?hw ?hc
  case hw => w_witness2
  case hc =>
    refine Dk.walk_law (l := PySem.Challenge.rw_priceplans_k02_errors_by_hand) (n := 63) (k := 5) (x := "_law_script") rfl (by decide) (by kernel_rfl) ⟨rfl, by decide, by decide⟩ ?F
    intro w mg fa h Y G hmg0
    obtain ⟨K, KX, c⟩ := Y
    have hmg : mg ("law" : PySem.Str) = some (.ref fa) := by
      have e : (HandSHeadRun.topDef (OpenLaw.row PySem.Challenge.rw_priceplans_k02_errors_by_hand).prog 14).name = ("law" : PySem.Str) := by kernel_rfl
      rw [← e]
      exact hmg0
    obtain ⟨fd, hb, hF⟩ := K02.facts (P := (PySem.Challenge.rw_priceplans_k02_errors_by_hand).prog) (w := w) KX G hmg c
    exact ⟨K, fd, KX, hb, hF⟩
