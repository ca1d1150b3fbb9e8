import PyProof.Rows.All
import Wide.All
import OpenK.AllK
import Wide.FinOn
import HandS.ForMost
import HandS.IsInst
import HandS.Walk
import HandS.Style
import HandS.TupAny
import HandS.Wide
import HandS.Deep
import HandS.SortInts
import PyProof.WalksMore
import PyProof.ReprRoads
import PyProof.CallFns
import KE.GoesZip
import KE.GoesMore
import KE.GoesEnum
import KE.GoesEnumKw
import HandS.Defaults
import HandS.Head0
import HandS.Head1
import HandS.Head2
import HandS.HeadEnd
import HandS.HeadHook1
import HandS.HeadHook2
import HandS.TupMul
import PyProof.ReprLen
import PyProof.Rows.ReprOcc
import HandS.WideMore
import HandS.Conv
import HandS.TupLe
import KE.SortData
import HandS.More
import KE.DataMinMax
import HandS.SetFor
import HandS.TupSets
import PySem.Challenge.RW_priceplans_k82_schemes_and_databases_rec
import HandS.Codes
set_option Elab.async false
set_option linter.all false
set_option maxRecDepth 100000
set_option maxHeartbeats 2000000
/-! Dk: reading over pure data. Part 1: data that stands in the heap, slots, the relation. -/
namespace Dk
open PySem PySem.Spec PyProof.Rows L2

abbrev D := PyData
abbrev Fg := PySem.W.Frag
def Le (F G : Hp) : Prop := ∀ a o, F a = some o → G a = some o
theorem Le.refl (F : Hp) : Le F F := fun _ _ h => h
theorem Le.trans {F G H : Hp} (a : Le F G) (b : Le G H) : Le F H := fun x o h => b x o (a x o h)
theorem Le.rd {F G : Hp} (e : Le F G) {a : Addr} {u : HO} (h : Rd F a u) : Rd G a u := by
  rcases h with h | ⟨o, h⟩
  · exact .inl (e _ _ h)
  · exact .inr ⟨o, e _ _ h⟩
theorem Le.l {K : Fg} {F G : Hp} (e : Le F G) {a : Addr} {xs : List V} (h : SqL K F a xs) : SqL K G a xs := by
  rcases h with h | h
  · exact .inl (e.rd h)
  · exact .inr h
theorem Le.t {K : Fg} {F G : Hp} (e : Le F G) {a : Addr} {xs : List V} (h : SqT K F a xs) : SqT K G a xs := by
  rcases h with h | h
  · exact .inl (e.rd h)
  · exact .inr h

/-- no list, no tuple is over the line -/
def Szs (H : Hp) : Prop := ∀ a xs, H a = some (.lst xs) ∨ (∃ o, H a = some (.frz o (.lst xs))) ∨ H a = some (.tup xs) ∨ (∃ o, H a = some (.frz o (.tup xs))) → xs.length ≤ sizeLine
theorem Szs.t {K : Fg} {H : Hp} (z : Szs H) {a : Addr} {xs : List V} (h : SqT K H a xs) : xs.length ≤ sizeLine := by
  rcases h with (h | ⟨o, h⟩) | ⟨o, its, n, _, _, _, h, r⟩
  · exact z a xs (.inr (.inr (.inl h)))
  · exact z a xs (.inr (.inr (.inr ⟨o, h⟩)))
  · have := r.length
    simp at this
    omega
theorem Szs.l {H : Hp} (z : Szs H) {a : Addr} {xs : List V} (h : H a = some (.lst xs)) : xs.length ≤ sizeLine := z a xs (.inl h)
theorem Szs.upL {H : Hp} (z : Szs H) {p : Addr} {vs : List V} (h : vs.length ≤ sizeLine) : Szs (upd H p (.lst vs)) := fun a xs q => by
  by_cases e : a = p
  · subst e
    rw [upd_same] at q
    rcases q with q | ⟨o, q⟩ | q | ⟨o, q⟩ <;> cases q
    exact h
  · rw [upd_ne e] at q
    exact z a xs q
theorem Szs.upT {H : Hp} (z : Szs H) {p : Addr} {vs : List V} (h : vs.length ≤ sizeLine) : Szs (upd H p (.tup vs)) := fun a xs q => by
  by_cases e : a = p
  · subst e
    rw [upd_same] at q
    rcases q with q | ⟨o, q⟩ | q | ⟨o, q⟩ <;> cases q
    exact h
  · rw [upd_ne e] at q
    exact z a xs q
theorem Szs.upD {H : Hp} (z : Szs H) {p : Addr} : Szs (upd H p (.dK [])) := fun a xs q => by
  by_cases e : a = p
  · subst e
    rw [upd_same] at q
    rcases q with q | ⟨o, q⟩ | q | ⟨o, q⟩ <;> cases q
  · rw [upd_ne e] at q
    exact z a xs q
theorem szs_of {P : Program} {w : World} {H : Hp} {h : Heap} (x : HOk P w H h) : Szs H := fun a xs q => by
  rcases q with q | ⟨o, q⟩ | q | ⟨o, q⟩
  · exact (x a _ q).1
  · exact (x a _ q).2.1
  · exact (x a _ q).1
  · exact (x a _ q).2.1

/-! ### data in a heap that does not change -/
mutual
def DR (K : Fg) (F : Hp) : D → V → Prop
  | .none, v => v = .non
  | .bool b, v => v = .bl b
  | .int i, v => v = .int i
  | .str x, v => v = .str x
  | .list ds, v => ∃ a vs, v = .ref a ∧ F a = some (.lst vs) ∧ DRs K F ds vs
  | .tuple ds, v => ∃ a vs, v = .ref a ∧ SqT K F a vs ∧ DRs K F ds vs
  | .dict kvs, v => ∃ a, v = .ref a ∧ kvs = [] ∧ F a = some (.dK [])
def DRs (K : Fg) (F : Hp) : List D → List V → Prop
  | [], vs => vs = []
  | d :: ds, vs => ∃ v r, vs = v :: r ∧ DR K F d v ∧ DRs K F ds r
end
section
variable {K : Fg} {F G H : Hp}
mutual
theorem DR.mono (e : Le F G) : ∀ (d : D) (v : V), DR K F d v → DR K G d v
  | .none, v, h => by unfold DR at h ⊢; exact h
  | .bool b, v, h => by unfold DR at h ⊢; exact h
  | .int i, v, h => by unfold DR at h ⊢; exact h
  | .str x, v, h => by unfold DR at h ⊢; exact h
  | .list ds, v, h => by
    unfold DR at h ⊢
    obtain ⟨a, vs, h1, h2, h3⟩ := h
    exact ⟨a, vs, h1, e _ _ h2, DRs.mono e ds vs h3⟩
  | .tuple ds, v, h => by
    unfold DR at h ⊢
    obtain ⟨a, vs, h1, h2, h3⟩ := h
    exact ⟨a, vs, h1, e.t h2, DRs.mono e ds vs h3⟩
  | .dict kvs, v, h => by
    unfold DR at h ⊢
    obtain ⟨a, h1, h2, h3⟩ := h
    exact ⟨a, h1, h2, e _ _ h3⟩
theorem DRs.mono (e : Le F G) : ∀ (ds : List D) (vs : List V), DRs K F ds vs → DRs K G ds vs
  | [], vs, h => by unfold DRs at h ⊢; exact h
  | d :: ds, vs, h => by
    unfold DRs at h ⊢
    obtain ⟨v, r, h1, h2, h3⟩ := h
    exact ⟨v, r, h1, DR.mono e d v h2, DRs.mono e ds r h3⟩
end
theorem DR.non_ {v : V} : DR K F .none v ↔ v = .non := by unfold DR; exact Iff.rfl
theorem DR.bl_ {b : Bool} {v : V} : DR K F (.bool b) v ↔ v = .bl b := by unfold DR; exact Iff.rfl
theorem DR.int_ {i : Int} {v : V} : DR K F (.int i) v ↔ v = .int i := by unfold DR; exact Iff.rfl
theorem DR.str_ {x : Str} {v : V} : DR K F (.str x) v ↔ v = .str x := by unfold DR; exact Iff.rfl
theorem DR.list_ {ds : List D} {v : V} : DR K F (.list ds) v ↔ ∃ a vs, v = .ref a ∧ F a = some (.lst vs) ∧ DRs K F ds vs := by
  conv => lhs; unfold DR
theorem DR.tuple_ {ds : List D} {v : V} : DR K F (.tuple ds) v ↔ ∃ a vs, v = .ref a ∧ SqT K F a vs ∧ DRs K F ds vs := by
  conv => lhs; unfold DR
theorem DR.dict_ {kvs : List (D × D)} {v : V} : DR K F (.dict kvs) v ↔ ∃ a, v = .ref a ∧ kvs = [] ∧ F a = some (.dK []) := by
  conv => lhs; unfold DR
theorem DRs.nil_ {vs : List V} : DRs K F [] vs ↔ vs = [] := by unfold DRs; exact Iff.rfl
theorem DRs.cons_ {d : D} {ds : List D} {vs : List V} : DRs K F (d :: ds) vs ↔ ∃ v r, vs = v :: r ∧ DR K F d v ∧ DRs K F ds r := by
  conv => lhs; unfold DRs
theorem DRs.nil : DRs K F [] [] := DRs.nil_.mpr rfl
theorem DRs.cons {d : D} {ds : List D} {v : V} {vs : List V} (h : DR K F d v) (r : DRs K F ds vs) : DRs K F (d :: ds) (v :: vs) := DRs.cons_.mpr ⟨v, vs, rfl, h, r⟩
theorem DRs.len : ∀ {ds : List D} {vs : List V}, DRs K F ds vs → vs.length = ds.length
  | [], vs, h => by rw [DRs.nil_.mp h]; rfl
  | d :: ds, vs, h => by
    obtain ⟨v, r, rfl, _, h3⟩ := DRs.cons_.mp h
    rw [List.length_cons, List.length_cons, DRs.len h3]
theorem DRs.get : ∀ {ds : List D} {vs : List V} {i : Nat} {d : D}, DRs K F ds vs → ds[i]? = some d → ∃ v, vs[i]? = some v ∧ DR K F d v
  | [], vs, i, d, h, e => by simp at e
  | c :: ds, vs, 0, d, h, e => by
    obtain ⟨v, r, rfl, h2, _⟩ := DRs.cons_.mp h
    simp at e
    subst e
    exact ⟨v, rfl, h2⟩
  | c :: ds, vs, i + 1, d, h, e => by
    obtain ⟨v, r, rfl, _, h3⟩ := DRs.cons_.mp h
    obtain ⟨u, h1, h2⟩ := DRs.get (i := i) h3 (by simpa using e)
    exact ⟨u, by simpa using h1, h2⟩
theorem DRs.append : ∀ {ds es : List D} {vs us : List V}, DRs K F ds vs → DRs K F es us → DRs K F (ds ++ es) (vs ++ us)
  | [], es, vs, us, h, g => by rw [DRs.nil_.mp h]; exact g
  | d :: ds, es, vs, us, h, g => by
    obtain ⟨v, r, rfl, h2, h3⟩ := DRs.cons_.mp h
    exact .cons h2 (h3.append g)
theorem DRs.take : ∀ {ds : List D} {vs : List V} (n : Nat), DRs K F ds vs → DRs K F (ds.take n) (vs.take n)
  | ds, vs, 0, h => by simp; exact .nil
  | [], vs, n + 1, h => by rw [DRs.nil_.mp h]; exact .nil
  | d :: ds, vs, n + 1, h => by
    obtain ⟨v, r, rfl, h2, h3⟩ := DRs.cons_.mp h
    exact .cons h2 (h3.take n)
theorem DRs.drop : ∀ {ds : List D} {vs : List V} (n : Nat), DRs K F ds vs → DRs K F (ds.drop n) (vs.drop n)
  | ds, vs, 0, h => h
  | [], vs, n + 1, h => by rw [DRs.nil_.mp h]; exact .nil
  | d :: ds, vs, n + 1, h => by
    obtain ⟨v, r, rfl, h2, h3⟩ := DRs.cons_.mp h
    exact h3.drop n
theorem DRs.set : ∀ {ds : List D} {vs : List V} (n : Nat) {d : D} {v : V}, DRs K F ds vs → DR K F d v → DRs K F (ds.set n d) (vs.set n v)
  | [], vs, n, d, v, h, g => by rw [DRs.nil_.mp h]; exact .nil
  | c :: ds, vs, 0, d, v, h, g => by
    obtain ⟨u, r, rfl, h2, h3⟩ := DRs.cons_.mp h
    exact .cons g h3
  | c :: ds, vs, n + 1, d, v, h, g => by
    obtain ⟨u, r, rfl, h2, h3⟩ := DRs.cons_.mp h
    exact .cons h2 (h3.set n g)
theorem DRs.reverse : ∀ {ds : List D} {vs : List V}, DRs K F ds vs → DRs K F ds.reverse vs.reverse
  | [], vs, h => by rw [DRs.nil_.mp h]; exact .nil
  | d :: ds, vs, h => by
    obtain ⟨v, r, rfl, h2, h3⟩ := DRs.cons_.mp h
    rw [List.reverse_cons, List.reverse_cons]
    exact h3.reverse.append (.cons h2 .nil)
theorem DRs.eraseIdx : ∀ {ds : List D} {vs : List V} (n : Nat), DRs K F ds vs → DRs K F (ds.eraseIdx n) (vs.eraseIdx n)
  | [], vs, n, h => by rw [DRs.nil_.mp h]; exact .nil
  | d :: ds, vs, 0, h => by
    obtain ⟨v, r, rfl, h2, h3⟩ := DRs.cons_.mp h
    exact h3
  | d :: ds, vs, n + 1, h => by
    obtain ⟨v, r, rfl, h2, h3⟩ := DRs.cons_.mp h
    exact .cons h2 (h3.eraseIdx n)
theorem DRs.rep {ds : List D} {vs : List V} (h : DRs K F ds vs) : ∀ n : Nat, DRs K F (List.replicate n ds).flatten (List.replicate n vs).flatten
  | 0 => .nil
  | n + 1 => by
    rw [List.replicate_succ, List.replicate_succ, List.flatten_cons, List.flatten_cons]
    exact h.append (h.rep n)
theorem DRs.ints : ∀ {ns : List Int} {vs : List V}, DRs K F (ns.map .int) vs → vs = ns.map V.int
  | [], vs, h => DRs.nil_.mp h
  | n :: ns, vs, h => by
    obtain ⟨u, r, rfl, h2, h3⟩ := DRs.cons_.mp h
    rw [DR.int_.mp h2, DRs.ints h3]
    rfl
theorem DRs.of_ints : ∀ (ns : List Int), DRs K F (ns.map .int) (ns.map V.int)
  | [] => .nil
  | n :: ns => .cons (DR.int_.mpr rfl) (DRs.of_ints ns)
theorem DRs.bls : ∀ {ns : List Bool} {vs : List V}, DRs K F (ns.map .bool) vs → vs = ns.map V.bl
  | [], vs, h => DRs.nil_.mp h
  | n :: ns, vs, h => by
    obtain ⟨u, r, rfl, h2, h3⟩ := DRs.cons_.mp h
    rw [DR.bl_.mp h2, DRs.bls h3]
    rfl
end

/-! ### slots -/
structure Pen where
  cells : List Int
  at_ : Int
  cur : Int
inductive Sl where
  | un | val (d : D) | own (xs : List D) | bor (xs : List D) | pen | scr (ns : List Int) | ref (a : Addr)
/-- what stood when the def was entered; M: what may have changed since -/
structure Bs where
  H0 : Hp
  F0 : Hp
  M : Addr → Prop
/-- a store of things that change: the pen at pa, others; T: the cells that it takes -/
class StK (S : Type) where
  look : S → Addr → Option (List D)
  R : Fg → Option Addr → Hp → Hp → S → (Addr → Prop) → Prop
  frame : ∀ {K : Fg} {pa : Option Addr} {H F H' F' : Hp} {s : S} {T : Addr → Prop}, R K pa H F s T → (∀ b, T b → H' b = H b) → Le F F' → (∀ b, T b → F' b = none) → R K pa H' F' s T
  seen : ∀ {K : Fg} {pa : Option Addr} {H F : Hp} {s : S} {T : Addr → Prop} {b : Addr} {xs : List D}, R K pa H F s T → look s b = some xs → ∃ vs, H b = some (.lst vs) ∧ DRs K F xs vs
/-- the script: it stands in the module, or in the heap and does not change -/
def ScrR (K : Fg) (H : Hp) (T : Addr → Prop) (a : Addr) (ns : List Int) : Prop := (Rd H a (.lst (ns.map .int)) ∧ ¬ T a) ∨ SqL K (fun _ => none) a (ns.map .int)
def SlotR (K : Fg) (B : Bs) (pa : Option Addr) (H F : Hp) : Sl → Option V → Prop
  | .un, _ => True
  | .val d, o => ∃ v, o = some v ∧ DR K F d v
  | .own xs, o => ∃ a vs, o = some (.ref a) ∧ H a = some (.lst vs) ∧ DRs K F xs vs ∧ F a = none ∧ B.H0 a = none
  | .bor xs, o => ∃ a vs, o = some (.ref a) ∧ B.H0 a = some (.lst vs) ∧ DRs K F xs vs ∧ ¬ B.M a
  | .pen, o => ∃ a, pa = some a ∧ o = some (.ref a)
  | .scr ns, o => ∃ a, o = some (.ref a) ∧ ScrR K B.H0 B.M a ns
  | .ref a, o => o = some (.ref a)
/-- the store stands, apart from what the slots own -/
structure StR {S : Type} [StK S] (K : Fg) (B : Bs) (pa : Option Addr) (zs : List (Option V)) (H F : Hp) (ws : List Sl) (pn : S) (T : Addr → Prop) : Prop where
  r : StK.R K pa H F pn T
  hn : ∀ b, T b → H b ≠ none
  fn : ∀ b, T b → F b = none
  bs : ∀ b, T b → B.H0 b = none ∨ B.M b
  ap : ∀ (i : Nat) (xs : List D) (a : Addr), ws[i]? = some (.own xs) → zs[i]? = some (some (.ref a)) → ¬ T a
structure Rel {S : Type} [StK S] (K : Fg) (B : Bs) (pa : Option Addr) (zs : List (Option V)) (H F : Hp) (ws : List Sl) (pn : S) : Prop where
  len : zs.length = ws.length
  fh : Le F H
  base : ∀ b o, B.H0 b = some o → ¬ B.M b → H b = some o
  f0 : Le B.F0 F
  fr : ∀ b o, F b = some o → B.F0 b = some o ∨ B.H0 b = none
  sl : ∀ (i : Nat) (s : Sl), ws[i]? = some s → ∃ o, zs[i]? = some o ∧ SlotR K B pa H F s o
  inj : ∀ (i j : Nat) (xs ys : List D) (a : Addr), ws[i]? = some (.own xs) → ws[j]? = some (.own ys) → zs[i]? = some (some (.ref a)) → zs[j]? = some (some (.ref a)) → i = j
  st : ∃ T, StR K B pa zs H F ws pn T
  pal : ∀ b, B.M b → H b ≠ none
  sz : Szs H
section
variable {S : Type} [StK S] {K : Fg} {B : Bs} {pa : Option Addr} {zs : List (Option V)} {H F H' F' : Hp} {ws : List Sl} {pn pn' : S} {v : V} {d : D} {s : Sl} {o : Option V} {xs ys : List D} {p : Addr} {i : Nat} {T T' : Addr → Prop}
theorem ScrR.sq {a : Addr} {ns : List Int} {M : Addr → Prop} (h : ScrR K H M a ns) : SqL K H a (ns.map .int) := by
  rcases h with ⟨h, _⟩ | h
  · exact .inl h
  · rcases h with (h | ⟨o, h⟩) | h
    · exact nomatch h
    · exact nomatch h
    · exact .inr h
theorem get_app {α : Type} {l : List α} {x : α} {i : Nat} {y : α} (h : (l ++ [x])[i]? = some y) : l[i]? = some y ∨ (i = l.length ∧ x = y) := by
  by_cases hi : i < l.length
  · rw [List.getElem?_append_left hi] at h
    exact .inl h
  · rw [List.getElem?_append_right (by omega)] at h
    by_cases e : i = l.length
    · subst e
      simp at h
      exact .inr ⟨rfl, h⟩
    · rw [List.getElem?_eq_none (by simp; omega)] at h
      cases h
theorem app_get {α : Type} {l : List α} {x : α} {i : Nat} {y : α} (h : l[i]? = some y) : (l ++ [x])[i]? = some y := by
  rw [List.getElem?_append_left (List.getElem?_eq_some_iff.mp h).1]
  exact h
theorem app_last {α : Type} (l : List α) (x : α) : (l ++ [x])[l.length]? = some x := by simp
theorem SlotR.grow (h : SlotR K B pa H F s o) (hH : ∀ xs a, s = .own xs → o = some (.ref a) → H' a = H a ∧ F' a = none) (hF : Le F F') : SlotR K B pa H' F' s o := by
  cases s with
  | un => trivial
  | val d =>
    obtain ⟨v, e, r⟩ := h
    exact ⟨v, e, r.mono hF⟩
  | own xs =>
    obtain ⟨a, vs, e, h1, h2, h3, h4⟩ := h
    obtain ⟨g1, g2⟩ := hH xs a rfl e
    exact ⟨a, vs, e, by rw [g1]; exact h1, h2.mono hF, g2, h4⟩
  | bor xs =>
    obtain ⟨a, vs, e, h1, h2, h3⟩ := h
    exact ⟨a, vs, e, h1, h2.mono hF, h3⟩
  | pen => exact h
  | scr ns => exact h
  | ref a => exact h
theorem new_none {b : Addr} (hfr : ∀ b u, F' b = some u → F b = some u ∨ H b = none) (h1 : F b = none) (h2 : H b ≠ none) : F' b = none := by
  cases q : F' b with
  | none => rfl
  | some u =>
    rcases hfr b u q with z | z
    · rw [h1] at z; cases z
    · exact absurd z h2
/-- behind a call, a new object -/
theorem Rel.called (R : Rel K B pa zs H F ws pn) (t : StR K B pa zs H F ws pn T) (hH : ∀ b u, H b = some u → ¬ T b → H' b = some u) (hF : Le F F') (hFH : Le F' H') (hfr : ∀ b u, F' b = some u → F b = some u ∨ H b = none)
    (hr : StK.R K pa H' F' pn' T') (hT : ∀ b, T' b → T b ∨ H b = none) (hn : ∀ b, T' b → H' b ≠ none) (hf : ∀ b, T' b → F' b = none) (hp : ∀ b, H b ≠ none → H' b ≠ none) (hz : Szs H') : Rel K B pa zs H' F' ws pn' := by
  have h0 : ∀ b, H b = none → B.H0 b = none := fun b z => by
    cases q : B.H0 b with
    | none => rfl
    | some w =>
      by_cases hb : B.M b
      · exact absurd z (R.pal b hb)
      · have := R.base b w q hb
        rw [z] at this; cases this
  have hown : ∀ (i : Nat) (xs : List D) (a : Addr), ws[i]? = some (.own xs) → zs[i]? = some (some (.ref a)) → H a ≠ none ∧ ¬ T a ∧ H' a = H a ∧ F' a = none := fun i xs a e1 e2 => by
    obtain ⟨o, g1, b, vs, g2, g3, _, g4, _⟩ := R.sl i _ e1
    rw [e2] at g1
    cases g1
    cases g2
    have hne : H a ≠ none := by rw [g3]; exact nofun
    have hT' := t.ap i xs a e1 e2
    exact ⟨hne, hT', by rw [hH a _ g3 hT', g3], new_none hfr g4 hne⟩
  refine ⟨R.len, hFH, fun b u e n => ?_, R.f0.trans hF, fun b u e => ?_, fun i s e => ?_, R.inj, ⟨T', hr, hn, hf, fun b hb => ?_, fun i xs a e1 e2 hb => ?_⟩, fun b hb => hp b (R.pal b hb), hz⟩
  · refine hH b u (R.base b u e n) fun hb => ?_
    rcases t.bs b hb with z | z
    · rw [e] at z; cases z
    · exact n z
  · rcases hfr b u e with z | z
    · exact R.fr b u z
    · exact .inr (h0 b z)
  · obtain ⟨o, e1, e2⟩ := R.sl i s e
    refine ⟨o, e1, e2.grow (fun xs a h1 h2 => ?_) hF⟩
    subst h1 h2
    exact (hown i xs a e e1).2.2
  · rcases hT b hb with z | z
    · exact t.bs b z
    · exact .inl (h0 b z)
  · obtain ⟨g1, g2, _⟩ := hown i xs a e1 e2
    rcases hT a hb with z | z
    · exact g2 z
    · exact g1 z
theorem Rel.grow (R : Rel K B pa zs H F ws pn) (hH : Le H H') (hF : Le F F') (hFH : Le F' H') (hfr : ∀ b u, F' b = some u → F b = some u ∨ H b = none) (hz : Szs H') : Rel K B pa zs H' F' ws pn := by
  obtain ⟨T, t⟩ := R.st
  have hn : ∀ b, H b ≠ none → H' b = H b := fun b h => by
    obtain ⟨u, e⟩ := Option.ne_none_iff_exists'.mp h
    rw [e, hH _ _ e]
  have hf : ∀ b, T b → F' b = none := fun b hb => new_none hfr (t.fn b hb) (t.hn b hb)
  exact R.called t (fun b u e _ => hH b u e) hF hFH hfr (StK.frame t.r (fun b hb => hn b (t.hn b hb)) hF hf) (fun b hb => .inl hb) (fun b hb => by rw [hn b (t.hn b hb)]; exact t.hn b hb) hf (fun b h => by rw [hn b h]; exact h) hz
theorem Rel.hnone (R : Rel K B pa zs H F ws pn) (hp : H p = none) : F p = none ∧ B.H0 p = none ∧ ¬ B.M p := by
  have hm : ¬ B.M p := fun e => R.pal p e hp
  refine ⟨?_, ?_, hm⟩
  · cases q : F p with
    | none => rfl
    | some u => rw [R.fh _ _ q] at hp; cases hp
  · cases q : B.H0 p with
    | none => rfl
    | some w => rw [R.base p w q hm] at hp; cases hp
theorem le_upd {o : HO} (hp : H p = none) : Le H (upd H p o) := fun b u e => by rw [upd_ne (ne_of_none e hp)]; exact e
/-- the own slots of one more -/
theorem own_push {a : Addr} {xs : List D} (hl : zs.length = ws.length) (ho : ∀ xs, s ≠ .own xs) (sl : ∀ (i : Nat) (s : Sl), ws[i]? = some s → ∃ o, zs[i]? = some o ∧ SlotR K B pa H F s o) (e1 : (ws ++ [s])[i]? = some (.own xs)) (e2 : (zs ++ [o])[i]? = some (some (.ref a))) :
    ws[i]? = some (.own xs) ∧ zs[i]? = some (some (.ref a)) := by
  rcases get_app e1 with e | ⟨_, e⟩
  · obtain ⟨o1, q1, _⟩ := sl i _ e
    rw [app_get q1] at e2
    exact ⟨e, by rw [q1, e2]⟩
  · exact absurd e (ho _)
/-- one more: no owner -/
theorem Rel.push (R : Rel K B pa zs H F ws pn) (h : SlotR K B pa H F s o) (ho : ∀ xs, s ≠ .own xs) : Rel K B pa (zs ++ [o]) H F (ws ++ [s]) pn := by
  obtain ⟨T, t⟩ := R.st
  refine ⟨by simp [R.len], R.fh, R.base, R.f0, R.fr, fun i t e => ?_, fun i j xs ys a e1 e2 e3 e4 => ?_, ⟨T, t.r, t.hn, t.fn, t.bs, fun i xs a e1 e2 => ?_⟩, R.pal, R.sz⟩
  · rcases get_app e with e | ⟨rfl, rfl⟩
    · obtain ⟨o', h1, h2⟩ := R.sl i t e
      exact ⟨o', app_get h1, h2⟩
    · exact ⟨o, by rw [← R.len]; exact app_last _ _, h⟩
  · obtain ⟨a1, a2⟩ := own_push R.len ho R.sl e1 e3
    obtain ⟨b1, b2⟩ := own_push R.len ho R.sl e2 e4
    exact R.inj i j xs ys a a1 b1 a2 b2
  · obtain ⟨a1, a2⟩ := own_push R.len ho R.sl e1 e2
    exact t.ap i xs a a1 a2
theorem Rel.pushVal (R : Rel K B pa zs H F ws pn) (h : DR K F d v) : Rel K B pa (zs ++ [some v]) H F (ws ++ [.val d]) pn := R.push (s := .val d) ⟨v, rfl, h⟩ fun _ => nofun
theorem Rel.pushUn (R : Rel K B pa zs H F ws pn) (o : Option V) : Rel K B pa (zs ++ [o]) H F (ws ++ [.un]) pn := R.push (s := .un) trivial fun _ => nofun
theorem Rel.pushOwn {vs : List V} (R : Rel K B pa zs H F ws pn) (hp : H p = none) (h : DRs K F xs vs) (hz : vs.length ≤ sizeLine) : Rel K B pa (zs ++ [some (.ref p)]) (upd H p (.lst vs)) F (ws ++ [.own xs]) pn := by
  obtain ⟨n1, n2, n3⟩ := R.hnone hp
  have R1 : Rel K B pa zs (upd H p (.lst vs)) F ws pn := R.grow (le_upd hp) (Le.refl _) (R.fh.trans (le_upd hp)) (fun b u e => .inl e) (R.sz.upL hz)
  have old : ∀ (k : Nat) (zz : List D) (c : Addr), ws[k]? = some (.own zz) → (zs ++ [some (.ref p)])[k]? = some (some (.ref c)) → zs[k]? = some (some (.ref c)) ∧ c ≠ p := fun k zz c e q => by
    obtain ⟨o1, q1, q2⟩ := R.sl k _ e
    rw [app_get q1] at q
    have q := Option.some.inj q
    subst q
    obtain ⟨a', vs', z1, z2, _⟩ := q2
    cases z1
    exact ⟨q1, ne_of_none z2 hp⟩
  have new : ∀ (k : Nat) (c : Addr), k = ws.length → (zs ++ [some (.ref p)])[k]? = some (some (.ref c)) → c = p := fun k c e q => by
    rw [e, ← R.len, app_last] at q
    cases q; rfl
  obtain ⟨T, t⟩ := R.st
  have tne : ∀ b, T b → b ≠ p := fun b hb z => t.hn b hb (by rw [z]; exact hp)
  have tH : ∀ b, T b → upd H p (.lst vs) b = H b := fun b hb => upd_ne (tne b hb)
  refine ⟨by simp [R.len], R1.fh, R1.base, R1.f0, R1.fr, fun i t e => ?_, fun i j xs ys a e1 e2 e3 e4 => ?_, ⟨T, StK.frame t.r tH (Le.refl _) t.fn, fun b hb => by rw [tH b hb]; exact t.hn b hb, t.fn, t.bs, fun i xs a e1 e2 hb => ?_⟩, R1.pal, R1.sz⟩
  · rcases get_app e with e | ⟨rfl, rfl⟩
    · obtain ⟨o', h1, h2⟩ := R1.sl i t e
      exact ⟨o', app_get h1, h2⟩
    · exact ⟨_, by rw [← R.len]; exact app_last _ _, p, vs, rfl, upd_same, h, n1, n2⟩
  · rcases get_app e1 with e1 | ⟨i1, e1⟩
    · obtain ⟨q1, q1'⟩ := old _ _ _ e1 e3
      rcases get_app e2 with e2 | ⟨j1, e2⟩
      · exact R.inj i j xs ys a e1 e2 q1 (old _ _ _ e2 e4).1
      · exact absurd (new j a j1 e4) q1'
    · rcases get_app e2 with e2 | ⟨j1, e2⟩
      · exact absurd (new i a i1 e3) (old _ _ _ e2 e4).2
      · rw [i1, j1]
  · rcases get_app e1 with e1 | ⟨i1, e1⟩
    · exact t.ap i xs a e1 (old _ _ _ e1 e2).1 hb
    · exact tne a hb (new i a i1 e2)
theorem Rel.pushTup {vs : List V} (R : Rel K B pa zs H F ws pn) (hp : H p = none) (h : DRs K F xs vs) (hz : vs.length ≤ sizeLine) : Rel K B pa (zs ++ [some (.ref p)]) (upd H p (.tup vs)) (upd F p (.tup vs)) (ws ++ [.val (.tuple xs)]) pn := by
  obtain ⟨n1, n2, n3⟩ := R.hnone hp
  have hF : Le F (upd F p (.tup vs)) := le_upd n1
  have R1 : Rel K B pa zs (upd H p (.tup vs)) (upd F p (.tup vs)) ws pn := R.grow (le_upd hp) hF (fun b u e => by
    by_cases hb : b = p
    · subst hb; rw [upd_same] at e ⊢; exact e
    · rw [upd_ne hb] at e ⊢; exact R.fh _ _ e) (fun b u e => by
    by_cases hb : b = p
    · subst hb; exact .inr hp
    · rw [upd_ne hb] at e; exact .inl e) (R.sz.upT hz)
  exact R1.pushVal (DR.tuple_.mpr ⟨p, vs, rfl, .inl (.inl upd_same), h.mono hF⟩)
theorem Rel.pushDict (R : Rel K B pa zs H F ws pn) (hp : H p = none) : Rel K B pa (zs ++ [some (.ref p)]) (upd H p (.dK [])) (upd F p (.dK [])) (ws ++ [.val (.dict [])]) pn := by
  obtain ⟨n1, n2, n3⟩ := R.hnone hp
  have hF : Le F (upd F p (.dK [])) := le_upd n1
  have R1 : Rel K B pa zs (upd H p (.dK [])) (upd F p (.dK [])) ws pn := R.grow (le_upd hp) hF (fun b u e => by
    by_cases hb : b = p
    · subst hb; rw [upd_same] at e ⊢; exact e
    · rw [upd_ne hb] at e ⊢; exact R.fh _ _ e) (fun b u e => by
    by_cases hb : b = p
    · subst hb; exact .inr hp
    · rw [upd_ne hb] at e; exact .inl e) R.sz.upD
  exact R1.pushVal (DR.dict_.mpr ⟨p, rfl, rfl, upd_same⟩)
theorem Rel.pop (R : Rel K B pa (zs ++ [o]) H F (ws ++ [s]) pn) : Rel K B pa zs H F ws pn := by
  have hl : zs.length = ws.length := by have := R.len; simp at this; omega
  obtain ⟨T, t⟩ := R.st
  refine ⟨hl, R.fh, R.base, R.f0, R.fr, fun i t e => ?_, fun i j xs ys a e1 e2 e3 e4 => R.inj i j xs ys a (app_get e1) (app_get e2) (app_get e3) (app_get e4), ⟨T, t.r, t.hn, t.fn, t.bs, fun i xs a e1 e2 => t.ap i xs a (app_get e1) (app_get e2)⟩, R.pal, R.sz⟩
  obtain ⟨o', h1, h2⟩ := R.sl i t (app_get e)
  have hi : i < zs.length := by rw [hl]; exact (List.getElem?_eq_some_iff.mp e).1
  rw [List.getElem?_append_left hi] at h1
  exact ⟨o', h1, h2⟩
theorem Rel.pops : ∀ {os : List (Option V)} {ss : List Sl}, os.length = ss.length → Rel K B pa (zs ++ os) H F (ws ++ ss) pn → Rel K B pa zs H F ws pn := by
  intro os
  induction os generalizing zs ws with
  | nil =>
    intro ss hl R
    cases ss with
    | nil => simpa using R
    | cons _ _ => simp at hl
  | cons x r ih =>
    intro ss hl R
    cases ss with
    | nil => simp at hl
    | cons y t =>
      have R' : Rel K B pa ((zs ++ [x]) ++ r) H F ((ws ++ [y]) ++ t) pn := by simpa using R
      exact (ih (by simpa using hl) R').pop
/-- the last goes to place i -/
theorem Rel.move (R : Rel K B pa (zs ++ [o]) H F (ws ++ [s]) pn) (hi : i < zs.length) : Rel K B pa (zs.set i o) H F (ws.set i s) pn := by
  have hl : zs.length = ws.length := by have := R.len; simp at this; omega
  have at_ : ∀ (k : Nat) (t : Sl), (ws.set i s)[k]? = some t → ∃ m, (ws ++ [s])[m]? = some t ∧ (zs.set i o)[k]? = (zs ++ [o])[m]? ∧ ((k = i ∧ m = ws.length) ∨ (k ≠ i ∧ m = k ∧ k < ws.length)) := fun k t e => by
    by_cases hk : k = i
    · subst hk
      rw [List.getElem?_set_self (by omega)] at e
      refine ⟨ws.length, ?_, ?_, .inl ⟨rfl, rfl⟩⟩
      · rw [app_last]; exact e
      · rw [List.getElem?_set_self hi, ← hl, app_last]
    · rw [List.getElem?_set_ne (Ne.symm hk)] at e
      have hk' := (List.getElem?_eq_some_iff.mp e).1
      refine ⟨k, app_get e, ?_, .inr ⟨hk, rfl, hk'⟩⟩
      rw [List.getElem?_set_ne (Ne.symm hk), List.getElem?_append_left (by omega)]
  obtain ⟨T, t⟩ := R.st
  refine ⟨by simp [hl], R.fh, R.base, R.f0, R.fr, fun k t e => ?_, fun k j xs ys a e1 e2 e3 e4 => ?_, ⟨T, t.r, t.hn, t.fn, t.bs, fun k xs a e1 e2 => ?_⟩, R.pal, R.sz⟩
  · obtain ⟨m, h1, h2, _⟩ := at_ k t e
    obtain ⟨o', q1, q2⟩ := R.sl m t h1
    exact ⟨o', by rw [h2]; exact q1, q2⟩
  · obtain ⟨m, h1, h2, h3⟩ := at_ k _ e1
    obtain ⟨n, g1, g2, g3⟩ := at_ j _ e2
    have := R.inj m n xs ys a h1 g1 (by rw [← h2]; exact e3) (by rw [← g2]; exact e4)
    omega
  · obtain ⟨m, h1, h2, _⟩ := at_ k _ e1
    exact t.ap m xs a h1 (by rw [← h2]; exact e2)
/-- what is owned becomes fixed -/
theorem Rel.freeze (R : Rel K B pa zs H F ws pn) (hi : ws[i]? = some (.own xs)) : ∃ F' v, Le F F' ∧ Rel K B pa zs H F' (ws.set i (.val (.list xs))) pn ∧ zs[i]? = some (some v) ∧ DR K F' (.list xs) v := by
  obtain ⟨o, h1, a, vs, e, h2, h3, h4, h5⟩ := R.sl i _ hi
  subst e
  have hF : Le F (upd F a (.lst vs)) := le_upd h4
  have hd : DR K (upd F a (.lst vs)) (.list xs) (.ref a) := DR.list_.mpr ⟨a, vs, rfl, upd_same, h3.mono hF⟩
  have hiw := (List.getElem?_eq_some_iff.mp hi).1
  obtain ⟨T, t⟩ := R.st
  have hTa := t.ap i xs a hi h1
  have ne : ∀ (k : Nat) (zz : List D), (ws.set i (.val (.list xs)))[k]? = some (.own zz) → ws[k]? = some (.own zz) ∧ k ≠ i := fun k zz e => by
    by_cases hk : k = i
    · subst hk
      rw [List.getElem?_set_self hiw] at e; cases e
    · rw [List.getElem?_set_ne (Ne.symm hk)] at e; exact ⟨e, hk⟩
  have hfn : ∀ b, T b → upd F a (.lst vs) b = none := fun b hb => by rw [upd_ne fun z => hTa (by rw [← z]; exact hb)]; exact t.fn b hb
  refine ⟨_, .ref a, hF, ⟨by simp [R.len], fun b u e => ?_, R.base, R.f0.trans hF, fun b u e => ?_, fun j t e => ?_, fun k j xs' ys a' e1 e2 e3 e4 => ?_, ⟨T, StK.frame t.r (fun b _ => rfl) hF hfn, t.hn, hfn, t.bs, fun k xs' a' e1 e2 => t.ap k xs' a' (ne k _ e1).1 e2⟩, R.pal, R.sz⟩, h1, hd⟩
  · by_cases hb : b = a
    · subst hb; rw [upd_same] at e; rw [h2]; exact e
    · rw [upd_ne hb] at e; exact R.fh _ _ e
  · by_cases hb : b = a
    · subst hb; exact .inr h5
    · rw [upd_ne hb] at e; exact R.fr _ _ e
  · by_cases hj : j = i
    · subst hj
      rw [List.getElem?_set_self hiw] at e
      cases e
      exact ⟨_, h1, _, rfl, hd⟩
    · rw [List.getElem?_set_ne (Ne.symm hj)] at e
      obtain ⟨o', q1, q2⟩ := R.sl j t e
      refine ⟨o', q1, q2.grow (fun ys a' z1 z2 => ?_) hF⟩
      subst z1 z2
      obtain ⟨_, _, y1, _, _, y2, _⟩ := q2
      cases y1
      refine ⟨rfl, ?_⟩
      rw [upd_ne fun z => hj (R.inj j i ys xs a' e hi q1 (by rw [z]; exact h1))]
      exact y2
  · exact R.inj k j _ _ a' (ne _ _ e1).1 (ne _ _ e2).1 e3 e4
/-- the owned list at place i gets another content -/
theorem Rel.write {vs : List V} {a : Addr} (R : Rel K B pa zs H F ws pn) (hi : ws[i]? = some (.own xs)) (ha : zs[i]? = some (some (.ref a))) (h : DRs K F ys vs) (hz : vs.length ≤ sizeLine) : Rel K B pa zs (upd H a (.lst vs)) F (ws.set i (.own ys)) pn := by
  obtain ⟨o, h1, a', vs', e, h2, h3, h4, h5⟩ := R.sl i _ hi
  subst e
  rw [ha] at h1
  cases h1
  have hiw := (List.getElem?_eq_some_iff.mp hi).1
  obtain ⟨T, t⟩ := R.st
  have hTa := t.ap i xs a hi ha
  have ne : ∀ (k : Nat) (zz : List D), (ws.set i (.own ys))[k]? = some (.own zz) → ∃ z', ws[k]? = some (.own z') := fun k zz e => by
    by_cases hk : k = i
    · subst hk; exact ⟨_, hi⟩
    · rw [List.getElem?_set_ne (Ne.symm hk)] at e; exact ⟨_, e⟩
  have tH : ∀ b, T b → upd H a (.lst vs) b = H b := fun b hb => upd_ne fun z => hTa (by rw [← z]; exact hb)
  refine ⟨by simp [R.len], fun b u e => ?_, fun b u e n => ?_, R.f0, R.fr, fun j t e => ?_, fun k j xs' ys a' e1 e2 e3 e4 => ?_, ⟨T, StK.frame t.r tH (Le.refl _) t.fn, fun b hb => by rw [tH b hb]; exact t.hn b hb, t.fn, t.bs, fun k xs' a' e1 e2 => ?_⟩, fun b e z => ?_, R.sz.upL hz⟩
  · have hb : b ≠ a := fun z => by rw [z, h4] at e; cases e
    rw [upd_ne hb]; exact R.fh _ _ e
  · have hb : b ≠ a := fun z => by rw [z, h5] at e; cases e
    rw [upd_ne hb]; exact R.base _ _ e n
  · by_cases hj : j = i
    · subst hj
      rw [List.getElem?_set_self hiw] at e
      cases e
      exact ⟨_, ha, a, vs, rfl, upd_same, h, h4, h5⟩
    · rw [List.getElem?_set_ne (Ne.symm hj)] at e
      obtain ⟨o', q1, q2⟩ := R.sl j t e
      refine ⟨o', q1, q2.grow (fun zz a' z1 z2 => ?_) (Le.refl _)⟩
      subst z1 z2
      obtain ⟨_, _, y1, _, _, y2, _⟩ := q2
      cases y1
      exact ⟨upd_ne fun z => hj (R.inj j i zz xs a' e hi q1 (by rw [z]; exact ha)), y2⟩
  · obtain ⟨z1, q1⟩ := ne _ _ e1
    obtain ⟨z2, q2⟩ := ne _ _ e2
    exact R.inj k j _ _ a' q1 q2 e3 e4
  · obtain ⟨z1, q1⟩ := ne _ _ e1
    exact t.ap k z1 a' q1 e2
  · by_cases hb : b = a
    · subst hb; rw [upd_same] at z; cases z
    · rw [upd_ne hb] at z; exact R.pal b e z
/-- forget place i -/
theorem Rel.forget (R : Rel K B pa zs H F ws pn) (i : Nat) (o : Option V) : Rel K B pa (zs.set i o) H F (ws.set i .un) pn := by
  by_cases hi : i < zs.length
  · exact Rel.move (R.pushUn o) hi
  · have hw : ¬ i < ws.length := by rw [← R.len]; exact hi
    rw [List.set_eq_of_length_le (by omega), List.set_eq_of_length_le (by omega)]
    exact R
end

/-! ### the pen -/
def PenR (K : Fg) (F H : Hp) (pa : Option Addr) : Option Pen → Prop
  | none => True
  | some p => ∃ a c, pa = some a ∧ H a = some (.lst [.ref c, .int p.at_, .int p.cur]) ∧ F a = none ∧ F c = some (.lst (p.cells.map .int))
theorem PenR.frame {K : Fg} {F H F' H' : Hp} {pa : Option Addr} {pn : Option Pen} (h : PenR K F H pa pn) (hH : ∀ b, pa = some b → H' b = H b) (hF : Le F F') (hf : ∀ b, pa = some b → F' b = none) : PenR K F' H' pa pn := by
  cases pn with
  | none => trivial
  | some p =>
    obtain ⟨a, c, h1, h2, h3, h4⟩ := h
    exact ⟨a, c, h1, by rw [hH a h1]; exact h2, hf a h1, hF _ _ h4⟩
instance stPen : StK (Option Pen) where
  look := fun _ _ => none
  seen := fun _ e => nomatch e
  R := fun K pa H F pn T => PenR K F H pa pn ∧ T = fun b => pa = some b
  frame := fun h hH hF hf => by
    obtain ⟨h1, rfl⟩ := h
    exact ⟨h1.frame hH hF hf, rfl⟩
/-- a store with a pen in it -/
class PenK (S : Type) extends StK S where
  get : S → Option Pen
  set : Option Pen → S → S
  pen : ∀ {K : Fg} {pa : Option Addr} {H F : Hp} {s : S} {T : Addr → Prop}, R K pa H F s T → PenR K F H pa (get s) ∧ ∀ b, pa = some b → T b
  apart : ∀ {K : Fg} {pa : Option Addr} {H F : Hp} {s : S} {T : Addr → Prop} {b : Addr} {xs : List D}, R K pa H F s T → look s b = some xs → pa ≠ some b
  up : ∀ {K : Fg} {pa : Option Addr} {H F H' F' : Hp} {s : S} {T : Addr → Prop} {pn : Option Pen}, R K pa H F s T → (∀ b, T b → pa ≠ some b → H' b = H b) → Le F F' → (∀ b, T b → F' b = none) → PenR K F' H' pa pn → R K pa H' F' (set pn s) T
instance penPen : PenK (Option Pen) where
  toStK := stPen
  get := fun p => p
  set := fun p _ => p
  pen := fun h => by
    obtain ⟨h1, rfl⟩ := h
    exact ⟨h1, fun b e => e⟩
  apart := fun _ e => nomatch e
  up := fun h _ _ _ hp => by
    obtain ⟨_, rfl⟩ := h
    exact ⟨hp, rfl⟩
end Dk
set_option Elab.async false
set_option linter.all false
set_option maxRecDepth 100000
set_option maxHeartbeats 2000000
/-! Dk, part 2: the judgements over data: operands, values, tests, arguments, statements. -/
namespace Dk
open PySem PySem.Spec PyProof.Rows L2
variable {S : Type} [StK S]

structure En (S : Type := Option Pen) where
  sl : List Sl
  pn : S
inductive Rs where
  | val (d : D) | own (xs : List D)
def Rs.sl : Rs → Sl
  | .val d => .val d
  | .own xs => .own xs
def Rs.d : Rs → D
  | .val d => d
  | .own xs => .list xs
inductive Tk where
  | tmp (r : Rs) | slot (i : Nat) | bt (xs : List D) | fb (b : Addr)
def Tk.sl : Tk → Sl
  | .tmp r => r.sl
  | .slot _ => .un
  | .bt xs => .bor xs
  | .fb b => .ref b
def Sl.rd : Sl → Option D
  | .val d => some d
  | .own xs => some (.list xs)
  | .bor xs => some (.list xs)
  | _ => none
def Tk.rd (ρ : En S) : Tk → Option D
  | .tmp r => some r.d
  | .slot i => (ρ.sl[i]?).bind Sl.rd
  | .bt xs => some (.list xs)
  | .fb b => (StK.look ρ.pn b).map .list
def gets {α : Type} : Option α → (α → Prop) → Prop
  | some a, k => k a
  | none, _ => False
@[simp] theorem gets_some {α : Type} {a : α} {k : α → Prop} : gets (some a) k = k a := rfl
@[simp] theorem gets_none {α : Type} {k : α → Prop} : gets none k = False := rfl
theorem gets_elim {α : Type} {o : Option α} {k : α → Prop} (h : gets o k) : ∃ a, o = some a ∧ k a := by
  cases o with
  | none => exact h.elim
  | some a => exact ⟨a, rfl, h⟩

/-- readable at the top: fixed data, or a list that stands now -/
def RdD (K : Fg) (H F : Hp) (d : D) (v : V) : Prop := DR K F d v ∨ ∃ ds a vs, d = .list ds ∧ v = .ref a ∧ H a = some (.lst vs) ∧ DRs K F ds vs
def RdDs (K : Fg) (H F : Hp) : List D → List V → Prop
  | [], vs => vs = []
  | d :: ds, vs => ∃ v r, vs = v :: r ∧ RdD K H F d v ∧ RdDs K H F ds r
section
variable {K : Fg} {B : Bs} {pa : Option Addr} {zs : List (Option V)} {H F H' F' : Hp} {ws : List Sl} {pn pn' : S} {v : V} {d : D} {s : Sl} {o : Option V} {xs ys : List D} {p : Addr} {i : Nat}
theorem RdD.list {ds : List D} (h : RdD K H F (.list ds) v) (e : Le F H) : ∃ a vs, v = .ref a ∧ H a = some (.lst vs) ∧ DRs K F ds vs := by
  rcases h with h | ⟨ds', a, vs, h1, h2, h3, h4⟩
  · obtain ⟨a, vs, h1, h2, h3⟩ := DR.list_.mp h
    exact ⟨a, vs, h1, e _ _ h2, h3⟩
  · cases h1
    exact ⟨a, vs, h2, h3, h4⟩
theorem RdD.tuple {ds : List D} (h : RdD K H F (.tuple ds) v) (e : Le F H) : ∃ a vs, v = .ref a ∧ SqT K H a vs ∧ DRs K F ds vs := by
  rcases h with h | ⟨ds', a, vs, h1, _⟩
  · obtain ⟨a, vs, h1, h2, h3⟩ := DR.tuple_.mp h
    exact ⟨a, vs, h1, e.t h2, h3⟩
  · cases h1
theorem RdD.int {j : Int} (h : RdD K H F (.int j) v) : v = .int j := by
  rcases h with h | ⟨ds', a, vs, h1, _⟩
  · exact DR.int_.mp h
  · cases h1
theorem RdD.bool {j : Bool} (h : RdD K H F (.bool j) v) : v = .bl j := by
  rcases h with h | ⟨ds', a, vs, h1, _⟩
  · exact DR.bl_.mp h
  · cases h1
theorem RdD.str {j : Str} (h : RdD K H F (.str j) v) : v = .str j := by
  rcases h with h | ⟨ds', a, vs, h1, _⟩
  · exact DR.str_.mp h
  · cases h1
theorem RdD.none_ (h : RdD K H F .none v) : v = .non := by
  rcases h with h | ⟨ds', a, vs, h1, _⟩
  · exact DR.non_.mp h
  · cases h1
theorem RdD.dict {kvs : List (D × D)} (h : RdD K H F (.dict kvs) v) (e : Le F H) : ∃ a, v = .ref a ∧ kvs = [] ∧ H a = some (.dK []) := by
  rcases h with h | ⟨ds', a, vs, h1, _⟩
  · obtain ⟨a, h1, h2, h3⟩ := DR.dict_.mp h
    exact ⟨a, h1, h2, e _ _ h3⟩
  · cases h1
theorem RdDs.one (h : RdDs K H F [d] vs) : ∃ v, vs = [v] ∧ RdD K H F d v := by
  obtain ⟨v, r, h1, h2, h3⟩ := h
  have h3 : r = [] := h3
  subst h3
  exact ⟨v, h1, h2⟩
theorem RdDs.two {e : D} (h : RdDs K H F [d, e] vs) : ∃ v u, vs = [v, u] ∧ RdD K H F d v ∧ RdD K H F e u := by
  obtain ⟨v, r, h1, h2, h3⟩ := h
  obtain ⟨u, rfl, h4⟩ := RdDs.one h3
  exact ⟨v, u, h1, h2, h4⟩
theorem slot_read (R : Rel K B pa zs H F ws pn) {c : Nat} (hw : ws[c]? = some s) (hz : zs[c]? = some (some v)) (h : s.rd = some d) : RdD K H F d v := by
  obtain ⟨o, h1, h2⟩ := R.sl c s hw
  rw [hz] at h1
  cases h1
  cases s with
  | un => cases h
  | pen => cases h
  | scr ns => cases h
  | ref a => cases h
  | val e =>
    cases h
    obtain ⟨u, h3, h4⟩ := h2
    cases h3
    exact .inl h4
  | own e =>
    cases h
    obtain ⟨a, vs, h3, h4, h5, _⟩ := h2
    cases h3
    exact .inr ⟨_, a, vs, rfl, rfl, h4, h5⟩
  | bor e =>
    cases h
    obtain ⟨a, vs, h3, h4, h5, h6⟩ := h2
    cases h3
    exact .inr ⟨_, a, vs, rfl, rfl, R.base _ _ h4 h6, h5⟩
theorem Rs.rd_sl (r : Rs) : r.sl.rd = some r.d := by cases r <;> rfl
/-- a token at place c -/
theorem tk_read {k : Tk} {ρ : En S} {c : Nat} (R : Rel K B pa zs H F ws ρ.pn) (hw : ws[c]? = some k.sl) (hz : zs[c]? = some (some v)) (hs : ∀ i, k = .slot i → zs[i]? = some (some v)) (hρ : ∀ i, i < ρ.sl.length → ws[i]? = ρ.sl[i]?) (h : k.rd ρ = some d) : RdD K H F d v := by
  cases k with
  | tmp r =>
    have h : some r.d = some d := h
    exact slot_read R hw hz (by show r.sl.rd = _; rw [Rs.rd_sl]; exact h)
  | bt xs => exact slot_read R hw hz h
  | slot i =>
    have h : (ρ.sl[i]?).bind Sl.rd = some d := h
    obtain ⟨s, h1, h2⟩ := Option.bind_eq_some_iff.mp h
    exact slot_read R (by rw [hρ i (List.getElem?_eq_some_iff.mp h1).1]; exact h1) (hs i rfl) h2
  | fb b =>
    have h : (StK.look ρ.pn b).map PyData.list = some d := h
    obtain ⟨xs, h1, rfl⟩ := Option.map_eq_some_iff.mp h
    obtain ⟨o, h2, h3⟩ := R.sl c _ hw
    have h3 : o = some (.ref b) := h3
    subst h3
    rw [hz] at h2
    cases h2
    obtain ⟨T, t⟩ := R.st
    obtain ⟨vs, h4, h5⟩ := StK.seen t.r h1
    exact .inr ⟨xs, b, vs, rfl, rfl, h4, h5⟩
end

/-! ### what an operation gives -/
def Gives (K : Fg) (F H : Hp) : Rs → VK → Prop
  | .val z, Q => (∀ v, DR K F z v → Q v H) ∧ (∀ zs vs p, z = .tuple zs → DRs K F zs vs → vs.length ≤ sizeLine → H p = none → Q (.ref p) (upd H p (.tup vs))) ∧ (∀ p, z = .dict [] → H p = none → Q (.ref p) (upd H p (.dK [])))
  | .own zs, Q => ∀ vs p, DRs K F zs vs → vs.length ≤ sizeLine → H p = none → Q (.ref p) (upd H p (.lst vs))
theorem Rel.gives {K : Fg} {B : Bs} {pa : Option Addr} {zs : List (Option V)} {H F : Hp} {ws : List Sl} {pn : S} {r : Rs} {Q : VK} (R : Rel K B pa zs H F ws pn)
    (q : ∀ v H' F', Rel K B pa (zs ++ [some v]) H' F' (ws ++ [r.sl]) pn → Q v H') : Gives K F H r Q := by
  cases r with
  | val z => exact ⟨fun v h => q v H F (R.pushVal h), fun ys vs p e h hz hp => q _ _ _ (by rw [e]; exact R.pushTup hp h hz), fun p e hp => q _ _ _ (by rw [e]; exact R.pushDict hp)⟩
  | own ys => exact fun vs p h hz hp => q _ _ _ (R.pushOwn hp h hz)

theorem freezeLast {K : Fg} {B : Bs} {pa : Option Addr} {zs : List (Option V)} {H F : Hp} {ws : List Sl} {pn : S} {r : Rs} {v : V} (R : Rel K B pa (zs ++ [some v]) H F (ws ++ [r.sl]) pn) :
    ∃ F', Le F F' ∧ Rel K B pa (zs ++ [some v]) H F' (ws ++ [.val r.d]) pn := by
  cases r with
  | val z => exact ⟨F, Le.refl _, R⟩
  | own ys =>
    obtain ⟨F', u, h1, h2, _⟩ := R.freeze (i := ws.length) (xs := ys) (app_last _ _)
    refine ⟨F', h1, ?_⟩
    have e : (ws ++ [(Rs.own ys).sl]).set ws.length (.val (.list ys)) = ws ++ [.val (.list ys)] := by
      rw [List.set_append_right _ _ (Nat.le_refl _)]
      simp
    rw [e] at h2
    exact h2

/-! ### the judgements -/
abbrev OW (S : Type := Option Pen) := (En S) → (Tk → (En S) → Prop) → Prop
abbrev DW (S : Type := Option Pen) := (En S) → (Rs → (En S) → Prop) → Prop
abbrev BW (S : Type := Option Pen) := (En S) → (Bool → (En S) → Prop) → Prop
abbrev AW (S : Type := Option Pen) := (En S) → (List Tk → (En S) → Prop) → Prop
def liftO (K : Fg) (t : (OW S)) : TE := fun σ H Q => ∃ B pa τ F ρ θ P, Rel K B pa (σ ++ τ) H F (ρ.sl ++ θ) ρ.pn ∧ ρ.sl.length = σ.length ∧ t ρ P ∧
  ∀ k ρ' v H' F', P k ρ' → ρ'.sl.length = σ.length → Rel K B pa (σ ++ τ ++ [some v]) H' F' (ρ'.sl ++ θ ++ [k.sl]) ρ'.pn → (∀ i, k = .slot i → σ[i]? = some (some v)) → Q v H'
def liftT (K : Fg) (t : (BW S)) : TT := fun σ H Q => ∃ B pa τ F ρ θ P, Rel K B pa (σ ++ τ) H F (ρ.sl ++ θ) ρ.pn ∧ ρ.sl.length = σ.length ∧ t ρ P ∧
  ∀ b ρ' H' F', P b ρ' → ρ'.sl.length = σ.length → Rel K B pa (σ ++ τ) H' F' (ρ'.sl ++ θ) ρ'.pn → Q b H'
def liftA (K : Fg) (t : (AW S)) : TA := fun σ H Q => ∃ B pa τ F ρ θ P, Rel K B pa (σ ++ τ) H F (ρ.sl ++ θ) ρ.pn ∧ ρ.sl.length = σ.length ∧ t ρ P ∧
  ∀ ks ρ' vs H' F', P ks ρ' → ρ'.sl.length = σ.length → ks.length = vs.length → Rel K B pa (σ ++ τ ++ vs.map some) H' F' (ρ'.sl ++ θ ++ ks.map Tk.sl) ρ'.pn →
    (∀ (j : Nat) i v, ks[j]? = some (.slot i) → vs[j]? = some v → σ[i]? = some (some v)) → Q vs H'
def tmpD (t : (DW S)) : (OW S) := fun ρ P => t ρ fun r ρ' => P (.tmp r) ρ'
abbrev CO (X : Cx) (e : Expr) (t : (OW S)) : Prop := PE X e (liftO X.K t)
abbrev CE (X : Cx) (e : Expr) (t : (DW S)) : Prop := PE X e (liftO X.K (tmpD t))
abbrev CT (X : Cx) (e : Expr) (t : (BW S)) : Prop := PT X e (liftT X.K t)
abbrev CW (X : Cx) (e : Expr) (t : (BW S)) : Prop := PW X e (liftT X.K t)
abbrev CA (X : Cx) (es : List Expr) (t : (AW S)) : Prop := PA X es (liftA X.K t)
section
variable {X : Cx} {e a b c : Expr} {es : List Expr} {t u : TE}
theorem pe_mono (h : PE X e t) (m : ∀ σ H Q, u σ H Q → t σ H Q) : PE X e u := ⟨fun pins s σ H Q I q => h.run pins s σ H Q I (m σ H Q q)⟩
theorem pt_mono {t u : TT} (h : PT X e t) (m : ∀ σ H Q, u σ H Q → t σ H Q) : PT X e u := ⟨fun pins s σ H Q I q => h.run pins s σ H Q I (m σ H Q q)⟩
theorem pw_mono {t u : TT} (h : PW X e t) (m : ∀ σ H Q, u σ H Q → t σ H Q) : PW X e u := ⟨fun w pins s σ H Q I q => h.run w pins s σ H Q I (m σ H Q q)⟩
theorem pa_mono {t u : TA} (h : PA X es t) (m : ∀ σ H Q, u σ H Q → t σ H Q) : PA X es u := ⟨fun pos pins s σ H Q I q => h.run pos pins s σ H Q I (m σ H Q q)⟩
theorem or_mono {f : Value → Value → Sem Value} {r r' : R2} (h : OpR X f r) (m : ∀ x y H Q, r' x y H Q → r x y H Q) : OpR X f r' := fun pins s σ H x y v u Q I rx ry q => h pins s σ H x y v u Q I rx ry (m _ _ _ _ q)
theorem cr_mono {f : Value} {r r' : List V → Hp → VK → Prop} (h : CallR X f r) (m : ∀ xs H Q, r' xs H Q → r xs H Q) : CallR X f r' := fun pins s σ H vs us Q I rv q => h pins s σ H vs us Q I rv (m _ _ _ q)

/-! ### names, constants -/
def hasS (ρ : List Sl) (i : Nat) : Bool := match ρ[i]? with
  | some .un => false
  | some _ => true
  | none => false
def oSlot (i : Nat) : (OW S) := fun ρ P => hasS ρ.sl i = true ∧ P (.slot i) ρ
theorem has_val {K : Fg} {B : Bs} {pa : Option Addr} {zs : List (Option V)} {H F : Hp} {pn : S} {ρ : List Sl} {θ : List Sl} {i : Nat} (R : Rel K B pa zs H F (ρ ++ θ) pn) (h : hasS ρ i = true) : ∃ v, zs[i]? = some (some v) := by
  unfold hasS at h
  cases q : ρ[i]? with
  | none => rw [q] at h; cases h
  | some s =>
    rw [q] at h
    obtain ⟨o, h1, h2⟩ := R.sl i s (by rw [List.getElem?_append_left (List.getElem?_eq_some_iff.mp q).1]; exact q)
    cases s with
    | un => cases h
    | val d => obtain ⟨v, rfl, _⟩ := h2; exact ⟨v, h1⟩
    | own d => obtain ⟨a, vs, rfl, _⟩ := h2; exact ⟨_, h1⟩
    | bor d => obtain ⟨a, vs, rfl, _⟩ := h2; exact ⟨_, h1⟩
    | pen => obtain ⟨a, _, rfl⟩ := h2; exact ⟨_, h1⟩
    | scr ns => obtain ⟨a, rfl, _⟩ := h2; exact ⟨_, h1⟩
    | ref a => subst h2; exact ⟨_, h1⟩
theorem left_get {α : Type} {l m : List α} {i : Nat} {x : α} (h : i < l.length) (e : (l ++ m)[i]? = some x) : l[i]? = some x := by rwa [List.getElem?_append_left h] at e
theorem hasS_lt {ρ : List Sl} {i : Nat} (h : hasS ρ i = true) : i < ρ.length := by
  unfold hasS at h
  cases q : ρ[i]? with
  | none => rw [q] at h; cases h
  | some s => exact (List.getElem?_eq_some_iff.mp q).1
theorem co_slot (i : Nat) {x : Str} {pos : Pos} (hN : X.N[i]? = some x := by rfl) (hv : Vis X.env.scope x := by first | exact Or.inl rfl | exact Or.inr (Or.inl rfl) | exact Or.inr (Or.inr rfl)) (hd : (x == ("__debug__" : Str)) = false := by decide)
    (hcd : (x == ("__classdict__" : Str)) = false := by decide) : CO (S := S) X (.Name x pos) (oSlot i) := pe_mono (pe_var hN hv hd hcd) fun σ H Q ⟨B, pa, τ, F, ρ, θ, P, R, hl, ⟨h1, h2⟩, q⟩ => by
  obtain ⟨v, hv⟩ := has_val R h1
  have hv' := left_get (by rw [← hl]; exact hasS_lt h1) hv
  exact ⟨v, hv', q _ _ v H F h2 hl (R.pushUn _) fun j e => by cases e; exact hv'⟩
/-- a name that is walked: what is owned is fixed then -/
def oFix (i : Nat) : (OW S) := fun ρ P => match ρ.sl[i]? with
  | some (.val d) => P (.tmp (.val d)) ρ
  | some (.own xs) => P (.tmp (.val (.list xs))) { ρ with sl := ρ.sl.set i (.val (.list xs)) }
  | some (.bor xs) => P (.bt xs) ρ
  | _ => False
theorem co_fix (i : Nat) {x : Str} {pos : Pos} (hN : X.N[i]? = some x := by rfl) (hv : Vis X.env.scope x := by first | exact Or.inl rfl | exact Or.inr (Or.inl rfl) | exact Or.inr (Or.inr rfl)) (hd : (x == ("__debug__" : Str)) = false := by decide)
    (hcd : (x == ("__classdict__" : Str)) = false := by decide) : CO (S := S) X (.Name x pos) (oFix i) := pe_mono (pe_var hN hv hd hcd) fun σ H Q ⟨B, pa, τ, F, ρ, θ, P, R, hl, h, q⟩ => by
  unfold oFix at h
  cases hi : ρ.sl[i]? with
  | none => rw [hi] at h; exact h.elim
  | some s =>
    rw [hi] at h
    have hlt := (List.getElem?_eq_some_iff.mp hi).1
    have hw : (ρ.sl ++ θ)[i]? = some s := by rw [List.getElem?_append_left hlt]; exact hi
    cases s with
    | un => exact h.elim
    | pen => exact h.elim
    | scr ns => exact h.elim
    | ref a => exact h.elim
    | bor xs =>
      obtain ⟨o, h1, h2⟩ := R.sl i _ hw
      have h3 := h2
      obtain ⟨a, vs, rfl, _⟩ := h2
      exact ⟨_, left_get (by rw [← hl]; exact hlt) h1, q _ _ _ H F h hl (R.push h3 fun _ => nofun) (fun j e => by cases e)⟩
    | val d =>
      obtain ⟨o, h1, v, rfl, h2⟩ := R.sl i _ hw
      exact ⟨v, left_get (by rw [← hl]; exact hlt) h1, q _ _ v H F h hl (R.pushVal h2) (fun j e => by cases e)⟩
    | own xs =>
      obtain ⟨F', v, h1, h2, h3, h4⟩ := R.freeze hw
      rw [List.set_append_left _ _ hlt] at h2
      exact ⟨v, left_get (by rw [← hl]; exact hlt) h3, q _ _ v H F' h (by simpa using hl) (h2.pushVal h4) (fun j e => by cases e)⟩
/-- a name as a value: what is owned is fixed then -/
def dVar (i : Nat) : (DW S) := fun ρ P => match ρ.sl[i]? with
  | some (.val d) => P (.val d) ρ
  | some (.own xs) => P (.val (.list xs)) { ρ with sl := ρ.sl.set i (.val (.list xs)) }
  | _ => False
theorem ce_var (i : Nat) {x : Str} {pos : Pos} (hN : X.N[i]? = some x := by rfl) (hv : Vis X.env.scope x := by first | exact Or.inl rfl | exact Or.inr (Or.inl rfl) | exact Or.inr (Or.inr rfl)) (hd : (x == ("__debug__" : Str)) = false := by decide)
    (hcd : (x == ("__classdict__" : Str)) = false := by decide) : CE (S := S) X (.Name x pos) (dVar i) := pe_mono (pe_var hN hv hd hcd) fun σ H Q ⟨B, pa, τ, F, ρ, θ, P, R, hl, h, q⟩ => by
  have h : dVar i ρ fun r ρ' => P (.tmp r) ρ' := h
  unfold dVar at h
  cases hi : ρ.sl[i]? with
  | none => rw [hi] at h; exact h.elim
  | some s =>
    rw [hi] at h
    have hlt := (List.getElem?_eq_some_iff.mp hi).1
    have hw : (ρ.sl ++ θ)[i]? = some s := by rw [List.getElem?_append_left hlt]; exact hi
    cases s with
    | un => exact h.elim
    | bor _ => exact h.elim
    | pen => exact h.elim
    | scr ns => exact h.elim
    | ref a => exact h.elim
    | val d =>
      obtain ⟨o, h1, v, rfl, h2⟩ := R.sl i _ hw
      exact ⟨v, left_get (by rw [← hl]; exact hlt) h1, q _ _ v H F h hl (R.pushVal h2) (fun j e => by cases e)⟩
    | own xs =>
      obtain ⟨F', v, h1, h2, h3, h4⟩ := R.freeze hw
      rw [List.set_append_left _ _ hlt] at h2
      exact ⟨v, left_get (by rw [← hl]; exact hlt) h3, q _ _ v H F' h (by simpa using hl) (h2.pushVal h4) (fun j e => by cases e)⟩
def dC (d : D) : (DW S) := fun ρ P => P (.val d) ρ
theorem ce_const {d : D} {v : V} (h : PE X e (tC v)) (hd : ∀ F, DR X.K F d v) : CE (S := S) X e (dC d) := pe_mono h fun σ H Q ⟨B, pa, τ, F, ρ, θ, P, R, hl, h, q⟩ => q _ _ v H F h hl (R.pushVal (hd F)) (fun j e => by cases e)
theorem ce_int {i : Int} {j pos} : CE (S := S) X (.Constant (.int i) j pos) (dC (.int i)) := ce_const pe_int fun _ => DR.int_.mpr rfl
theorem ce_bl {i : Bool} {j pos} : CE (S := S) X (.Constant (.bool i) j pos) (dC (.bool i)) := ce_const pe_bl fun _ => DR.bl_.mpr rfl
theorem ce_str {i : Str} {j pos} : CE (S := S) X (.Constant (.str i) j pos) (dC (.str i)) := ce_const pe_str fun _ => DR.str_.mpr rfl
theorem ce_non {j pos} : CE (S := S) X (.Constant .none j pos) (dC .none) := ce_const pe_non fun _ => DR.non_.mpr rfl
/-- a module's constant -/
theorem ce_glob {x : Str} {v : V} {w : Value} {d : D} {pos : Pos} (hm : X.mg x = some w) (r : RelV v w) (hd : ∀ F, DR X.K F d v) (hg : Gl X x := by rfl) (hdb : (x == ("__debug__" : Str)) = false := by decide) : CE (S := S) X (.Name x pos) (dC d) := ce_const (pe_glob hg hm r hdb) hd

/-! ### two operands -/
/-- an operator on values that reads data and gives what g says -/
def OpD (X : Cx) (f : Value → Value → Sem Value) (g : D → D → Option Rs) : Prop :=
  OpR X f fun x y H Q => ∃ F d e r, (Szs H ∧ Le F H) ∧ RdD X.K H F d x ∧ RdD X.K H F e y ∧ g d e = some r ∧ Gives X.K F H r Q
def dBin (g : D → D → Option Rs) (ta tb : (OW S)) : (DW S) := fun ρ P => ta ρ fun k1 ρ1 => tb ρ1 fun k2 ρ2 => gets (k1.rd ρ2) fun d1 => gets (k2.rd ρ2) fun d2 => gets (g d1 d2) fun r => P r ρ2
/-- the step that all binary rules share -/
theorem bin_step {K : Fg} {g : D → D → Option Rs} {ta tb : (OW S)} {σ : L2.St} {H : Hp} {Q : VK} (h : liftO K (tmpD (dBin g ta tb)) σ H Q) :
    liftO K ta σ H fun x H1 => liftO K tb σ H1 fun y H2 => ∃ F d e r, (Szs H2 ∧ Le F H2) ∧ RdD K H2 F d x ∧ RdD K H2 F e y ∧ g d e = some r ∧ Gives K F H2 r Q := by
  obtain ⟨B, pa, τ, F, ρ, θ, P, R, hl, h, q⟩ := h
  refine ⟨B, pa, τ, F, ρ, θ, _, R, hl, h, fun k1 ρ1 v1 H1 F1 h1 hl1 R1 s1 => ?_⟩
  refine ⟨B, pa, τ ++ [some v1], F1, ρ1, θ ++ [k1.sl], _, by rw [← List.append_assoc, ← List.append_assoc]; exact R1, hl1, h1, fun k2 ρ2 v2 H2 F2 h2 hl2 R2 s2 => ?_⟩
  rw [← List.append_assoc, ← List.append_assoc] at R2
  obtain ⟨d1, e1, h2⟩ := gets_elim h2
  obtain ⟨d2, e2, h2⟩ := gets_elim h2
  obtain ⟨r, e3, h2⟩ := gets_elim h2
  have hρ : ∀ (l : List Sl) i, i < ρ2.sl.length → (ρ2.sl ++ l)[i]? = ρ2.sl[i]? := fun l i hi => List.getElem?_append_left hi
  have hlen : (σ ++ τ).length = (ρ2.sl ++ θ).length := R2.pop.pop.len
  have hsz : ∀ {i : Nat} {v : V} (l : List (Option V)), σ[i]? = some (some v) → (σ ++ l)[i]? = some (some v) := fun l h => by
    rw [List.getElem?_append_left (List.getElem?_eq_some_iff.mp h).1]; exact h
  refine ⟨F2, d1, d2, r, ⟨R2.sz, R2.fh⟩, ?_, ?_, e3, R2.pop.pop.gives fun v H' F' R' => q _ _ v H' F' h2 hl2 R' (fun j e => by cases e)⟩
  · refine tk_read (k := k1) (ρ := ρ2) (c := (ρ2.sl ++ θ).length) R2 (app_get (app_last _ _)) (app_get (by rw [← hlen]; exact app_last _ _)) (fun i e => ?_) (fun i hi => ?_) e1
    · rw [List.append_assoc, List.append_assoc]; exact hsz _ (s1 i e)
    · rw [List.append_assoc, List.append_assoc]; exact hρ _ i hi
  · refine tk_read (k := k2) (ρ := ρ2) (c := (ρ2.sl ++ θ ++ [k1.sl]).length) R2 (app_last _ _) ?_ (fun i e => ?_) (fun i hi => ?_) e2
    · rw [show (ρ2.sl ++ θ ++ [k1.sl]).length = (σ ++ τ ++ [some v1]).length from R2.pop.len.symm]
      exact app_last _ _
    · rw [List.append_assoc, List.append_assoc]; exact hsz _ (s2 i e)
    · rw [List.append_assoc, List.append_assoc]; exact hρ _ i hi
variable {ta tb tc : (OW S)} {pos : Pos} {g : D → D → Option Rs}
theorem ce_bin {op : Operator} (ho : OpD X (binaryOp op) g) (ha : CO (S := S) X a ta) (hb : CO (S := S) X b tb) : CE (S := S) X (.BinOp a op b pos) (dBin g ta tb) := pe_mono (pe_op ho ha hb) fun _ _ _ h => bin_step h
theorem ce_cmp {op : CmpOp} (ho : OpD X (compareOp op) g) (ha : CO (S := S) X a ta) (hb : CO (S := S) X b tb) (hm : behindInMarks op b = false := by first | exact nomark _ | rfl) : CE (S := S) X (.Compare a [op] [b] pos) (dBin g ta tb) := pe_mono (pe_cmpR ho ha hb hm) fun _ _ _ h => bin_step h
theorem ce_ix (ho : IxR X fun x y H Q => ∃ F d e r, (Szs H ∧ Le F H) ∧ RdD X.K H F d x ∧ RdD X.K H F e y ∧ g d e = some r ∧ Gives X.K F H r Q) (ha : CO (S := S) X a ta) (hb : CO (S := S) X b tb) (hs : PlainIx b := by exact fun _ _ => rfl) : CE (S := S) X (.Subscript a b pos) (dBin g ta tb) :=
  pe_mono (pe_ix ho ha hb hs) fun _ _ _ h => bin_step h
/-- a < b < c: the first yields a bool, b stands between -/
theorem ce_cv {t : (DW S)} (h : CE (S := S) X e t) : CO (S := S) X e fun ρ P => t ρ fun r ρ' => P (.tmp (.val r.d)) ρ' := pe_mono h fun σ H Q ⟨B, pa, τ, F, ρ, θ, P, R, hl, h, q⟩ => by
  refine ⟨B, pa, τ, F, ρ, θ, fun k ρ' => ∃ r, k = .tmp r ∧ P (.tmp (.val r.d)) ρ', R, hl, ?_, fun k ρ' v H' F' ⟨r, hk, hp⟩ hl' R' _ => ?_⟩
  · have : (fun (r : Rs) (ρ' : (En S)) => P (.tmp (.val r.d)) ρ') = fun r ρ' => ∃ r', Tk.tmp r = Tk.tmp r' ∧ P (.tmp (.val r'.d)) ρ' := by
      funext r ρ'
      apply propext
      constructor
      · intro h; exact ⟨r, rfl, h⟩
      · rintro ⟨r', e, h⟩; cases e; exact h
    show t ρ fun r ρ' => ∃ r', Tk.tmp r = Tk.tmp r' ∧ P (.tmp (.val r'.d)) ρ'
    rw [← this]
    exact h
  · subst hk
    obtain ⟨F'', _, R''⟩ := freezeLast R'
    exact q _ _ v H' F'' hp hl' R'' (fun i e => by cases e)
end
end Dk
set_option Elab.async false
set_option linter.all false
set_option maxRecDepth 100000
set_option maxHeartbeats 2000000
/-! Dk, part 3: tests, and/or/not, conditional expressions, chains, arguments, displays, calls of built-ins. -/
namespace Dk
open PySem PySem.Spec PyProof.Rows L2
variable {S : Type} [StK S]

theorem read_at {K : Fg} {B : Bs} {pa : Option Addr} {σ : L2.St} {τ : List (Option V)} {H F : Hp} {ρ : En S} {θ : List Sl} {k : Tk} {v : V} {d : D} (R : Rel K B pa (σ ++ τ) H F (ρ.sl ++ θ) ρ.pn) (hl : ρ.sl.length = σ.length) (c : Nat)
    (hτ : τ[c]? = some (some v)) (hθ : θ[c]? = some k.sl) (hs : ∀ i, k = .slot i → σ[i]? = some (some v)) (h : k.rd ρ = some d) : RdD K H F d v := by
  refine tk_read (k := k) (ρ := ρ) (c := ρ.sl.length + c) R ?_ ?_ (fun i e => ?_) (fun i hi => List.getElem?_append_left hi) h
  · rw [List.getElem?_append_right (Nat.le_add_right _ _), Nat.add_sub_cancel_left]; exact hθ
  · rw [List.getElem?_append_right (by rw [hl]; exact Nat.le_add_right _ _), hl, Nat.add_sub_cancel_left]; exact hτ
  · have := hs i e
    rw [List.getElem?_append_left (List.getElem?_eq_some_iff.mp this).1]; exact this
theorem getN {α : Type} {l : List α} {x : α} {n : Nat} (h : l.length = n) : (l ++ [x])[n]? = some x := by subst h; exact app_last _ _
def D.bool? : D → Option Bool
  | .bool b => some b
  | _ => none
@[simp] theorem D.bool?_bool (b : Bool) : D.bool? (.bool b) = some b := rfl
theorem D.bool?_some {d : D} {b : Bool} (h : D.bool? d = some b) : d = .bool b := by
  cases d <;> cases h
  rfl
section
variable {X : Cx} {e a b c : Expr} {es : List Expr} {t u : (OW S)} {pos : Pos}
/-! ### tests -/
def dTst (t : (OW S)) : (BW S) := fun ρ P => t ρ fun k ρ' => gets ((k.rd ρ').bind D.bool?) fun b => P b ρ'
theorem tst_step {K : Fg} {t : (OW S)} {σ : L2.St} {H : Hp} {Q : Bool → Hp → Prop} (h : liftT K (dTst t) σ H Q) : liftO K t σ H fun x H' => ∃ k, x = .bl k ∧ Q k H' := by
  obtain ⟨B, pa, τ, F, ρ, θ, P, R, hl, h, q⟩ := h
  refine ⟨B, pa, τ, F, ρ, θ, _, R, hl, h, fun k ρ' v H' F' hp hl' R' hs => ?_⟩
  obtain ⟨b, e, hp⟩ := gets_elim hp
  obtain ⟨d, e1, e2⟩ := Option.bind_eq_some_iff.mp e
  have e3 := D.bool?_some e2
  subst e3
  have hτ : τ.length = θ.length := by have := R'.pop.len; simp at this; omega
  have rd := read_at (τ := τ ++ [some v]) (θ := θ ++ [k.sl]) (by rw [← List.append_assoc, ← List.append_assoc]; exact R') hl' τ.length (app_last _ _) (getN hτ.symm) hs e1
  exact ⟨b, rd.bool, q b ρ' H' F' hp hl' R'.pop⟩
theorem ct_val (h : CO (S := S) X e t) (he : ∀ whole, isTrue e X.env whole = (do let v ← whole; standAt e.pos; holding [v] (truthy v)) := by intro _; rfl) : CT (S := S) X e (dTst t) := pt_mono (pt_val h he) fun _ _ _ q => tst_step q
theorem ct_cmp {op : CmpOp} {g : D → D → Option Rs} (ho : OpD X (compareOp op) g) (ha : CO (S := S) X a t) (hb : CO (S := S) X b u) (hm : behindInMarks op b = false := by first | exact nomark _ | rfl) : CT (S := S) X (.Compare a [op] [b] pos) (dTst (tmpD (dBin g t u))) :=
  pt_mono (pt_cmpR ho ha hb hm) fun _ _ _ q => by
    obtain h := tst_step q
    exact bin_step h
variable {tA tB' tC : (BW S)} {rest : List Expr}
def dNot (t : (BW S)) : (BW S) := fun ρ P => t ρ fun b ρ' => P (!b) ρ'
theorem ct_not (h : CT (S := S) X a tA) : CT (S := S) X (.UnaryOp .Not a pos) (dNot tA) := pt_mono (pt_not h) fun σ H Q ⟨B, pa, τ, F, ρ, θ, P, R, hl, h, q⟩ =>
  ⟨B, pa, τ, F, ρ, θ, _, R, hl, h, fun b ρ' H' F' hp hl' R' => q (!b) ρ' H' F' hp hl' R'⟩
def dAnd (t u : (BW S)) : (BW S) := fun ρ P => t ρ fun b ρ' => if b = true then u ρ' P else P false ρ'
def dOr (t u : (BW S)) : (BW S) := fun ρ P => t ρ fun b ρ' => if b = true then P true ρ' else u ρ' P
theorem cw_and1 (ha : CT (S := S) X a tA) : CW (S := S) X (.BoolOp .And [a] pos) tA := pw_and1 ha
theorem cw_or1 (ha : CT (S := S) X a tA) : CW (S := S) X (.BoolOp .Or [a] pos) tA := pw_or1 ha
theorem cw_and (ha : CT (S := S) X a tA) (hb : CW (S := S) X (.BoolOp .And (b :: rest) pos) tB') : CW (S := S) X (.BoolOp .And (a :: b :: rest) pos) (dAnd tA tB') := pw_mono (pw_and ha hb) fun σ H Q ⟨B, pa, τ, F, ρ, θ, P, R, hl, h, q⟩ =>
  ⟨B, pa, τ, F, ρ, θ, _, R, hl, h, fun b ρ' H' F' hp hl' R' => by
    cases b with
    | true => exact iteT ⟨B, pa, τ, F', ρ', θ, P, R', hl', hp, q⟩
    | false => exact iteF (q false ρ' H' F' hp hl' R')⟩
theorem cw_or (ha : CT (S := S) X a tA) (hb : CW (S := S) X (.BoolOp .Or (b :: rest) pos) tB') : CW (S := S) X (.BoolOp .Or (a :: b :: rest) pos) (dOr tA tB') := pw_mono (pw_or ha hb) fun σ H Q ⟨B, pa, τ, F, ρ, θ, P, R, hl, h, q⟩ =>
  ⟨B, pa, τ, F, ρ, θ, _, R, hl, h, fun b ρ' H' F' hp hl' R' => by
    cases b with
    | true => exact iteT (q true ρ' H' F' hp hl' R')
    | false => exact iteF ⟨B, pa, τ, F', ρ', θ, P, R', hl', hp, q⟩⟩
theorem ct_w (h : CW (S := S) X e tA) : CT (S := S) X e tA := h.pt
/-! ### bools as values -/
def dAndV (t u : (DW S)) : (DW S) := fun ρ P => t ρ fun r ρ1 => gets (D.bool? r.d) fun b => if b = true then u ρ1 P else P (.val (.bool false)) ρ1
def dOrV (t u : (DW S)) : (DW S) := fun ρ P => t ρ fun r ρ1 => gets (D.bool? r.d) fun b => if b = true then P (.val (.bool true)) ρ1 else u ρ1 P
variable {tv uv : (DW S)}
theorem bl_of {K : Fg} {B : Bs} {pa : Option Addr} {σ : L2.St} {τ : List (Option V)} {H F : Hp} {ρ θ : List Sl} {pn : S} {r : Rs} {v : V} {b : Bool} (R : Rel K B pa (σ ++ τ ++ [some v]) H F (ρ ++ θ ++ [r.sl]) pn) (hb : D.bool? r.d = some b) : v = .bl b := by
  have e := D.bool?_some hb
  have hl := R.pop.len
  have rd := slot_read (s := r.sl) (d := r.d) (v := v) R (c := (ρ ++ θ).length) (app_last _ _) (by rw [← hl]; exact app_last _ _) (Rs.rd_sl r)
  rw [e] at rd
  exact rd.bool
theorem ce_one {op} (h : CE (S := S) X a tv) : CE (S := S) X (.BoolOp op [a] pos) tv := pe_one h
theorem ce_and (ha : CE (S := S) X a tv) (hb : CE (S := S) X (.BoolOp .And (b :: rest) pos) uv) : CE (S := S) X (.BoolOp .And (a :: b :: rest) pos) (dAndV tv uv) := pe_mono (pe_and ha hb) fun σ H Q ⟨B, pa, τ, F, ρ, θ, P, R, hl, h, q⟩ => by
  have mid : ∀ k ρ' v H' F', (∃ r, k = Tk.tmp r ∧ gets (D.bool? r.d) fun b => if b = true then uv ρ' (fun r ρ' => P (.tmp r) ρ') else P (.tmp (.val (.bool false))) ρ') → ρ'.sl.length = σ.length → Rel X.K B pa (σ ++ τ ++ [some v]) H' F' (ρ'.sl ++ θ ++ [k.sl]) ρ'.pn →
      ∃ c, v = .bl c ∧ if c = true then liftO X.K (tmpD uv) σ H' Q else Q (.bl false) H' := by
    rintro k ρ' v H' F' ⟨r, rfl, hp⟩ hl' R'
    obtain ⟨b, eb, hp⟩ := gets_elim hp
    refine ⟨b, bl_of R' eb, ?_⟩
    cases b with
    | true => exact iteT ⟨B, pa, τ, F', ρ', θ, P, R'.pop, hl', hp, q⟩
    | false => exact iteF (q _ _ _ H' F' hp hl' (R'.pop.pushVal (d := .bool false) (DR.bl_.mpr rfl)) (fun j e => by cases e))
  refine ⟨B, pa, τ, F, ρ, θ, fun k ρ' => ∃ r, k = Tk.tmp r ∧ gets (D.bool? r.d) fun b => if b = true then uv ρ' (fun r ρ' => P (.tmp r) ρ') else P (.tmp (.val (.bool false))) ρ', R, hl, ?_, fun k ρ' v H' F' hp hl' R' _ => mid k ρ' v H' F' hp hl' R'⟩
  have h : tv ρ fun r ρ1 => gets (D.bool? r.d) fun b => if b = true then uv ρ1 (fun r ρ' => P (.tmp r) ρ') else P (.tmp (.val (.bool false))) ρ1 := h
  show tv ρ fun r ρ1 => ∃ r', Tk.tmp r = Tk.tmp r' ∧ gets (D.bool? r'.d) fun b => if b = true then uv ρ1 (fun r ρ' => P (.tmp r) ρ') else P (.tmp (.val (.bool false))) ρ1
  have ee : (fun (r : Rs) (ρ1 : (En S)) => ∃ r', Tk.tmp r = Tk.tmp r' ∧ gets (D.bool? r'.d) fun b => if b = true then uv ρ1 (fun r ρ' => P (.tmp r) ρ') else P (.tmp (.val (.bool false))) ρ1)
      = fun r ρ1 => gets (D.bool? r.d) fun b => if b = true then uv ρ1 (fun r ρ' => P (.tmp r) ρ') else P (.tmp (.val (.bool false))) ρ1 := by
    funext r ρ1
    apply propext
    constructor
    · rintro ⟨r', e, h⟩; cases e; exact h
    · intro h; exact ⟨r, rfl, h⟩
  rw [ee]
  exact h
end
end Dk
set_option Elab.async false
set_option linter.all false
set_option maxRecDepth 100000
set_option maxHeartbeats 2000000
/-! Dk, part 3b: or, not, conditional expressions, chains, arguments, displays, calls of built-ins. -/
namespace Dk
open PySem PySem.Spec PyProof.Rows L2
variable {S : Type} [StK S]

theorem toE {K : Fg} {t : (DW S)} {σ : L2.St} {H : Hp} {Q : VK} (h : liftO K (tmpD t) σ H Q) : ∃ B pa τ F ρ θ, ∃ P : Rs → (En S) → Prop, Rel K B pa (σ ++ τ) H F (ρ.sl ++ θ) ρ.pn ∧ ρ.sl.length = σ.length ∧ t ρ P ∧
    ∀ r ρ' v H' F', P r ρ' → ρ'.sl.length = σ.length → Rel K B pa (σ ++ τ ++ [some v]) H' F' (ρ'.sl ++ θ ++ [r.sl]) ρ'.pn → Q v H' := by
  obtain ⟨B, pa, τ, F, ρ, θ, P, R, hl, h, q⟩ := h
  exact ⟨B, pa, τ, F, ρ, θ, fun r ρ' => P (.tmp r) ρ', R, hl, h, fun r ρ' v H' F' hp hl' R' => q (.tmp r) ρ' v H' F' hp hl' R' fun i e => by cases e⟩
theorem ofE {K : Fg} {t : (DW S)} {σ : L2.St} {H : Hp} {Q : VK} (h : ∃ B pa τ F ρ θ, ∃ P : Rs → (En S) → Prop, Rel K B pa (σ ++ τ) H F (ρ.sl ++ θ) ρ.pn ∧ ρ.sl.length = σ.length ∧ t ρ P ∧
    ∀ r ρ' v H' F', P r ρ' → ρ'.sl.length = σ.length → Rel K B pa (σ ++ τ ++ [some v]) H' F' (ρ'.sl ++ θ ++ [r.sl]) ρ'.pn → Q v H') : liftO K (tmpD t) σ H Q := by
  obtain ⟨B, pa, τ, F, ρ, θ, P, R, hl, h, q⟩ := h
  refine ⟨B, pa, τ, F, ρ, θ, fun k ρ' => match k with | .tmp r => P r ρ' | _ => False, R, hl, h, fun k ρ' v H' F' hp hl' R' _ => ?_⟩
  cases k with
  | tmp r => exact q r ρ' v H' F' hp hl' R'
  | slot i => exact hp.elim
  | bt i => exact hp.elim
  | fb i => exact hp.elim
section
variable {X : Cx} {e a b c : Expr} {es : List Expr} {t u : (OW S)} {pos : Pos} {tv uv : (DW S)} {rest : List Expr} {tA tB' : (BW S)}
theorem ce_or (ha : CE (S := S) X a tv) (hb : CE (S := S) X (.BoolOp .Or (b :: rest) pos) uv) : CE (S := S) X (.BoolOp .Or (a :: b :: rest) pos) (dOrV tv uv) := pe_mono (pe_or ha hb) fun σ H Q h => by
  obtain ⟨B, pa, τ, F, ρ, θ, P, R, hl, h, q⟩ := toE h
  refine ofE ⟨B, pa, τ, F, ρ, θ, _, R, hl, h, fun r ρ' v H' F' hp hl' R' => ?_⟩
  obtain ⟨b, eb, hp⟩ := gets_elim hp
  refine ⟨b, bl_of R' eb, ?_⟩
  cases b with
  | true => exact iteT (q _ _ _ H' F' hp hl' (R'.pop.pushVal (d := .bool true) (DR.bl_.mpr rfl)))
  | false => exact iteF (ofE ⟨B, pa, τ, F', ρ', θ, P, R'.pop, hl', hp, q⟩)
def dNotV (t : (DW S)) : (DW S) := fun ρ P => t ρ fun r ρ1 => gets (D.bool? r.d) fun b => P (.val (.bool (!b))) ρ1
theorem ce_not (ha : CE (S := S) X a tv) : CE (S := S) X (.UnaryOp .Not a pos) (dNotV tv) := pe_mono (pe_not ha) fun σ H Q h => by
  obtain ⟨B, pa, τ, F, ρ, θ, P, R, hl, h, q⟩ := toE h
  refine ofE ⟨B, pa, τ, F, ρ, θ, _, R, hl, h, fun r ρ' v H' F' hp hl' R' => ?_⟩
  obtain ⟨b, eb, hp⟩ := gets_elim hp
  exact ⟨b, bl_of R' eb, q _ _ _ H' F' hp hl' (R'.pop.pushVal (d := .bool (!b)) (DR.bl_.mpr rfl))⟩
/-- a test as a value (not, and, or over tests that are bools) is the same test -/
def dIf (t : (BW S)) (u v : (OW S)) : (OW S) := fun ρ P => t ρ fun b ρ1 => if b = true then u ρ1 P else v ρ1 P
theorem co_if (hc : CT (S := S) X c tA) (ha : CO (S := S) X a t) (hb : CO (S := S) X b u) : CO (S := S) X (.IfExp c a b pos) (dIf tA t u) := pe_mono (pe_ifExp hc ha hb) fun σ H Q ⟨B, pa, τ, F, ρ, θ, P, R, hl, h, q⟩ => by
  refine ⟨B, pa, τ, F, ρ, θ, _, R, hl, h, fun b ρ' H' F' hp hl' R' => ?_⟩
  cases b with
  | true => exact iteT ⟨B, pa, τ, F', ρ', θ, P, R', hl', hp, q⟩
  | false => exact iteF ⟨B, pa, τ, F', ρ', θ, P, R', hl', hp, q⟩
def dIfE (t : (BW S)) (u v : (DW S)) : (DW S) := fun ρ P => t ρ fun b ρ1 => if b = true then u ρ1 P else v ρ1 P
theorem ce_if (hc : CT (S := S) X c tA) (ha : CE (S := S) X a tv) (hb : CE (S := S) X b uv) : CE (S := S) X (.IfExp c a b pos) (dIfE tA tv uv) := pe_mono (pe_ifExp hc ha hb) fun σ H Q h => by
  obtain ⟨B, pa, τ, F, ρ, θ, P, R, hl, h, q⟩ := toE h
  refine ⟨B, pa, τ, F, ρ, θ, _, R, hl, h, fun b ρ' H' F' hp hl' R' => ?_⟩
  cases b with
  | true => exact iteT (ofE ⟨B, pa, τ, F', ρ', θ, P, R', hl', hp, q⟩)
  | false => exact iteF (ofE ⟨B, pa, τ, F', ρ', θ, P, R', hl', hp, q⟩)
/-- a op b op' c -/
def Rs.b? (r : Rs) : Option Bool := D.bool? r.d
def dChain (g g' : D → D → Option Rs) (ta tb tc : (OW S)) : (DW S) := fun ρ P => ta ρ fun k1 ρ1 => tb ρ1 fun k2 ρ2 => gets (k1.rd ρ2) fun d1 => gets (k2.rd ρ2) fun d2 => gets ((g d1 d2).bind Rs.b?) fun b =>
  if b = true then tc ρ2 fun k3 ρ3 => gets (k2.rd ρ3) fun d2' => gets (k3.rd ρ3) fun d3 => gets (g' d2' d3) fun r => P r ρ3 else P (.val (.bool false)) ρ2
theorem chain_step {K : Fg} {g g' : D → D → Option Rs} {ta tb tc : (OW S)} {σ : L2.St} {H : Hp} {Q : VK} (h : liftO K (tmpD (dChain g g' ta tb tc)) σ H Q) :
    tChain (fun x y H Q => ∃ F d e r, (Szs H ∧ Le F H) ∧ RdD K H F d x ∧ RdD K H F e y ∧ g d e = some r ∧ Gives K F H r Q) (fun x y H Q => ∃ F d e r, (Szs H ∧ Le F H) ∧ RdD K H F d x ∧ RdD K H F e y ∧ g' d e = some r ∧ Gives K F H r Q) (liftO K ta) (liftO K tb) (liftO K tc) σ H Q := by
  obtain ⟨B, pa, τ, F, ρ, θ, P, R, hl, h, q⟩ := toE h
  refine ⟨B, pa, τ, F, ρ, θ, _, R, hl, h, fun k1 ρ1 v1 H1 F1 h1 hl1 R1 s1 => ?_⟩
  refine ⟨B, pa, τ ++ [some v1], F1, ρ1, θ ++ [k1.sl], _, by rw [← List.append_assoc, ← List.append_assoc]; exact R1, hl1, h1, fun k2 ρ2 v2 H2 F2 h2 hl2 R2 s2 => ?_⟩
  rw [← List.append_assoc, ← List.append_assoc] at R2
  obtain ⟨d1, e1, h2⟩ := gets_elim h2
  obtain ⟨d2, e2, h2⟩ := gets_elim h2
  obtain ⟨b, e3, h2⟩ := gets_elim h2
  obtain ⟨r, e4, e5⟩ := Option.bind_eq_some_iff.mp e3
  have hτ : τ.length = θ.length := by have := R2.pop.pop.len; simp at this; omega
  have R2' : Rel K B pa (σ ++ (τ ++ [some v1] ++ [some v2])) H2 F2 (ρ2.sl ++ (θ ++ [k1.sl] ++ [k2.sl])) ρ2.pn := by simpa only [List.append_assoc] using R2
  have rd1 := read_at R2' hl2 τ.length (app_get (app_last _ _)) (app_get (getN hτ.symm)) s1 e1
  have rd2 := read_at R2' hl2 (τ ++ [some v1]).length (app_last _ _) (getN (by simp [hτ])) s2 e2
  refine ⟨F2, d1, d2, r, ⟨R2.sz, R2.fh⟩, rd1, rd2, e4, Rel.gives (ws := ρ2.sl ++ (θ ++ [k1.sl] ++ [k2.sl])) R2' fun z H3 F3 R3 => ?_⟩
  have ez : z = .bl b := bl_of (θ := θ ++ [k1.sl] ++ [k2.sl]) (τ := τ ++ [some v1] ++ [some v2]) (by simpa only [List.append_assoc] using R3) e5
  refine ⟨b, ez, ?_⟩
  have R3 := R3.pop
  cases b with
  | false =>
    refine iteF (q _ ρ2 _ H3 F3 h2 hl2 ?_)
    have R4 : Rel K B pa (σ ++ τ ++ [some v1] ++ [some v2]) H3 F3 (ρ2.sl ++ θ ++ [k1.sl] ++ [k2.sl]) ρ2.pn := by simpa only [List.append_assoc] using R3
    exact R4.pop.pop.pushVal (DR.bl_.mpr rfl)
  | true =>
    refine iteT ⟨B, pa, τ ++ [some v1] ++ [some v2], F3, ρ2, θ ++ [k1.sl] ++ [k2.sl], _, R3, hl2, h2, fun k3 ρ3 v3 H4 F4 h3 hl3 R4 s3 => ?_⟩
    obtain ⟨d2', f1, h3⟩ := gets_elim h3
    obtain ⟨d3, f2, h3⟩ := gets_elim h3
    obtain ⟨r', f3, h3⟩ := gets_elim h3
    have R5 : Rel K B pa (σ ++ (τ ++ [some v1] ++ [some v2] ++ [some v3])) H4 F4 (ρ3.sl ++ (θ ++ [k1.sl] ++ [k2.sl] ++ [k3.sl])) ρ3.pn := by simpa only [List.append_assoc] using R4
    have R6 : Rel K B pa (σ ++ τ ++ [some v1] ++ [some v2] ++ [some v3]) H4 F4 (ρ3.sl ++ θ ++ [k1.sl] ++ [k2.sl] ++ [k3.sl]) ρ3.pn := by simpa only [List.append_assoc] using R4
    exact ⟨F4, d2', d3, r', ⟨R6.sz, R6.fh⟩, read_at R5 hl3 (τ ++ [some v1]).length (app_get (app_last _ _)) (app_get (getN (by simp [hτ]))) s2 f1,
      read_at R5 hl3 (τ ++ [some v1] ++ [some v2]).length (app_last _ _) (getN (by simp [hτ])) s3 f2, f3, R6.pop.pop.pop.gives fun v H' F' R' => q _ _ v H' F' h3 hl3 R'⟩
theorem ce_chain {op op' : CmpOp} {g g' : D → D → Option Rs} {ta tb tc : (OW S)} (ho : OpD X (compareOp op) g) (ho' : OpD X (compareOp op') g') (ha : CO (S := S) X a ta) (hb : CO (S := S) X b tb) (hc : CO (S := S) X c tc)
    (hm : lastMarks [op, op'] [b, c] = false := by with_unfolding_all rfl) : CE (S := S) X (.Compare a [op, op'] [b, c] pos) (dChain g g' ta tb tc) := pe_mono (pe_chain ho ho' ha hb hc hm) fun _ _ _ h => chain_step h
theorem ct_chain {op op' : CmpOp} {g g' : D → D → Option Rs} {ta tb tc : (OW S)} (ho : OpD X (compareOp op) g) (ho' : OpD X (compareOp op') g') (ha : CO (S := S) X a ta) (hb : CO (S := S) X b tb) (hc : CO (S := S) X c tc)
    (hm : lastMarks [op, op'] [b, c] = false := by with_unfolding_all rfl) : CT (S := S) X (.Compare a [op, op'] [b, c] pos) (dTst (tmpD (dChain g g' ta tb tc))) := pt_mono (pt_chain ho ho' ha hb hc hm) fun _ _ _ h => chain_step (tst_step h)

/-! ### one operand -/
def dUn (g : D → Option Rs) (t : (OW S)) : (DW S) := fun ρ P => t ρ fun k ρ1 => gets (k.rd ρ1) fun d => gets (g d) fun r => P r ρ1
def UnD (K : Fg) (g : D → Option Rs) : V → Hp → VK → Prop := fun x H Q => ∃ F d r, (Szs H ∧ Le F H) ∧ RdD K H F d x ∧ g d = some r ∧ Gives K F H r Q
theorem un_step {K : Fg} {g : D → Option Rs} {t : (OW S)} {σ : L2.St} {H : Hp} {Q : VK} (h : liftO K (tmpD (dUn g t)) σ H Q) : liftO K t σ H fun x H1 => UnD K g x H1 Q := by
  obtain ⟨B, pa, τ, F, ρ, θ, P, R, hl, h, q⟩ := toE h
  refine ⟨B, pa, τ, F, ρ, θ, _, R, hl, h, fun k1 ρ1 v1 H1 F1 h1 hl1 R1 s1 => ?_⟩
  obtain ⟨d1, e1, h1⟩ := gets_elim h1
  obtain ⟨r, e2, h1⟩ := gets_elim h1
  have hτ : τ.length = θ.length := by have := R1.pop.len; simp at this; omega
  have R2 : Rel K B pa (σ ++ (τ ++ [some v1])) H1 F1 (ρ1.sl ++ (θ ++ [k1.sl])) ρ1.pn := by simpa only [List.append_assoc] using R1
  exact ⟨F1, d1, r, ⟨R1.sz, R1.fh⟩, read_at R2 hl1 τ.length (app_last _ _) (getN hτ.symm) s1 e1, e2, R1.pop.gives fun v H' F' R' => q _ _ v H' F' h1 hl1 R'⟩
theorem ce_un {op : UnaryOp} {g : D → Option Rs} (ho : UnR X (unaryOp op) (UnD X.K g)) (ha : CO (S := S) X a t) : CE (S := S) X (.UnaryOp op a pos) (dUn g t) := pe_mono (pe_un ho ha) fun _ _ _ h => un_step h

/-! ### arguments -/
def aNil : (AW S) := fun ρ P => P [] ρ
def aCons (t : (OW S)) (u : (AW S)) : (AW S) := fun ρ P => t ρ fun k ρ1 => u ρ1 fun ks ρ2 => P (k :: ks) ρ2
theorem ca_nil : CA (S := S) X [] aNil := pa_mono pa_nil fun σ H Q ⟨B, pa, τ, F, ρ, θ, P, R, hl, h, q⟩ => q [] ρ [] H F h hl rfl (by simpa using R) (fun j i v e => by simp at e)
theorem ca_cons {ta : (OW S)} {tr : (AW S)} (ha : CO (S := S) X a ta) (hr : CA (S := S) X es tr) (hs : starEach (a :: es) X.env = (false, eval a X.env) :: starEach es X.env := by rfl) : CA (S := S) X (a :: es) (aCons ta tr) :=
  pa_mono (pa_cons ha hr hs) fun σ H Q ⟨B, pa, τ, F, ρ, θ, P, R, hl, h, q⟩ => by
    refine ⟨B, pa, τ, F, ρ, θ, _, R, hl, h, fun k1 ρ1 v1 H1 F1 h1 hl1 R1 s1 => ?_⟩
    refine ⟨B, pa, τ ++ [some v1], F1, ρ1, θ ++ [k1.sl], _, by simpa only [List.append_assoc] using R1, hl1, h1, fun ks ρ2 vs H2 F2 h2 hl2 hk R2 s2 => ?_⟩
    refine q (k1 :: ks) ρ2 (v1 :: vs) H2 F2 h2 hl2 (by simp [hk]) (by simpa only [List.append_assoc, List.map_cons, List.singleton_append] using R2) fun j i v e1 e2 => ?_
    cases j with
    | zero =>
      simp at e1 e2
      subst e1 e2
      exact s1 i rfl
    | succ j => exact s2 j i v (by simpa using e1) (by simpa using e2)
def rds (ρ : En S) : List Tk → Option (List D)
  | [] => some []
  | k :: ks => (k.rd ρ).bind fun d => (rds ρ ks).bind fun ds => some (d :: ds)
@[simp] theorem rds_nil {ρ : En S} : rds ρ [] = some [] := rfl
theorem rds_cons {ρ : En S} {k : Tk} {ks : List Tk} : rds ρ (k :: ks) = (k.rd ρ).bind fun d => (rds ρ ks).bind fun ds => some (d :: ds) := rfl
theorem reads_all {K : Fg} {B : Bs} {pa : Option Addr} {σ : L2.St} {H F : Hp} {ρ : En S} (hl : ρ.sl.length = σ.length) : ∀ (ks : List Tk) (vs : List V) (τ : List (Option V)) (θ : List Sl) (ds : List D),
    τ.length = θ.length → ks.length = vs.length → Rel K B pa (σ ++ (τ ++ vs.map some)) H F (ρ.sl ++ (θ ++ ks.map Tk.sl)) ρ.pn → (∀ (j : Nat) i v, ks[j]? = some (.slot i) → vs[j]? = some v → σ[i]? = some (some v)) → rds ρ ks = some ds → RdDs K H F ds vs := by
  intro ks
  induction ks with
  | nil =>
    intro vs τ θ ds _ hk _ _ h
    cases vs with
    | nil => cases h; rfl
    | cons _ _ => simp at hk
  | cons k ks ih =>
    intro vs τ θ ds ht hk R s h
    cases vs with
    | nil => simp at hk
    | cons v vs =>
      rw [rds_cons] at h
      obtain ⟨d, e1, h⟩ := Option.bind_eq_some_iff.mp h
      obtain ⟨ds', e2, h⟩ := Option.bind_eq_some_iff.mp h
      cases h
      refine ⟨v, vs, rfl, ?_, ?_⟩
      · exact read_at R hl τ.length (by simp) (by rw [ht]; simp) (fun i e => s 0 i v (by simp [e]) rfl) e1
      · refine ih vs (τ ++ [some v]) (θ ++ [k.sl]) ds' (by simp [ht]) (by simpa using hk) (by simpa only [List.append_assoc, List.map_cons, List.singleton_append] using R) (fun j i u h1 h2 => s (j + 1) i u (by simpa using h1) (by simpa using h2)) e2
/-! ### calls of built-ins -/
def CallD (X : Cx) (f : Value) (g : List D → Option Rs) : Prop := CallR X f fun xs H Q => ∃ F ds r, (Szs H ∧ Le F H) ∧ RdDs X.K H F ds xs ∧ g ds = some r ∧ Gives X.K F H r Q
def dCB (g : List D → Option Rs) (ta : (AW S)) : (DW S) := fun ρ P => ta ρ fun ks ρ1 => gets (rds ρ1 ks) fun ds => gets (g ds) fun r => P r ρ1
theorem cb_step {K : Fg} {g : List D → Option Rs} {ta : (AW S)} {σ : L2.St} {H : Hp} {Q : VK} (h : liftO K (tmpD (dCB g ta)) σ H Q) : liftA K ta σ H fun vs H1 => ∃ F ds r, (Szs H1 ∧ Le F H1) ∧ RdDs K H1 F ds vs ∧ g ds = some r ∧ Gives K F H1 r Q := by
  obtain ⟨B, pa, τ, F, ρ, θ, P, R, hl, h, q⟩ := toE h
  refine ⟨B, pa, τ, F, ρ, θ, _, R, hl, h, fun ks ρ1 vs H1 F1 h1 hl1 hk R1 s1 => ?_⟩
  obtain ⟨ds, e1, h1⟩ := gets_elim h1
  obtain ⟨r, e2, h1⟩ := gets_elim h1
  have R2 : Rel K B pa (σ ++ τ) H1 F1 (ρ1.sl ++ θ) ρ1.pn := R1.pops (by simp [hk])
  have hτ : τ.length = θ.length := by have := R2.len; simp at this; omega
  exact ⟨F1, ds, r, ⟨R1.sz, R1.fh⟩, reads_all hl1 ks vs τ θ ds hτ hk (by simpa only [List.append_assoc] using R1) s1 e1, e2, R2.gives fun v H' F' R' => q _ _ v H' F' h1 hl1 R'⟩
theorem ce_callB {x : Str} {p : Pos} {id : String} {g : List D → Option Rs} {ta : (AW S)} (hc : CallD X (.builtin id) g) (hm : X.mg x = none) (hv : bootBuiltins x = some (.builtin id)) (ha : CA (S := S) X (a :: es) ta) (hg : Gl X x := by rfl) (hn : x ≠ "__name__" := by decide) (hdb : (x == ("__debug__" : Str)) = false := by decide)
    (he : starEach (a :: es) X.env = (false, eval a X.env) :: starEach es X.env := by rfl) (hpl : (backTo pos (starEach es X.env)).any (·.1) = false := by rfl) : CE (S := S) X (.Call (.Name x p) (a :: es) [] pos) (dCB g ta) :=
  pe_mono (pe_callB hc hg hm hv ha hn hdb he hpl) fun _ _ _ h => cb_step h
theorem ce_callTy {x : Str} {p : Pos} {id : String} {g : List D → Option Rs} {ta : (AW S)} (hc : CallD X (.type id) g) (hm : X.mg x = none) (hv : bootBuiltins x = some (.type id)) (ha : CA (S := S) X (a :: es) ta) (hg : Gl X x := by rfl) (hn : x ≠ "__name__" := by decide) (hdb : (x == ("__debug__" : Str)) = false := by decide)
    (he : starEach (a :: es) X.env = (false, eval a X.env) :: starEach es X.env := by rfl) (hpl : (backTo pos (starEach es X.env)).any (·.1) = false := by rfl) : CE (S := S) X (.Call (.Name x p) (a :: es) [] pos) (dCB g ta) :=
  pe_mono (pe_callTy hc hg hm hv ha hn hdb he hpl) fun _ _ _ h => cb_step h
/-! ### displays -/
def vals : List Tk → Option (List D)
  | [] => some []
  | .tmp (.val d) :: ks => (vals ks).bind fun ds => some (d :: ds)
  | _ :: _ => none
theorem vals_rds {ρ : En S} : ∀ {ks : List Tk} {ds : List D}, vals ks = some ds → ks.map Tk.sl = ds.map Sl.val
  | [], ds, h => by cases h; rfl
  | .tmp (.val d) :: ks, ds, h => by
    obtain ⟨ds', e1, h⟩ := Option.bind_eq_some_iff.mp h
    cases h
    rw [List.map_cons, List.map_cons, vals_rds (ρ := ρ) e1]
    rfl
  | .tmp (.own _) :: ks, ds, h => by cases h
  | .slot _ :: ks, ds, h => by cases h
  | .bt _ :: ks, ds, h => by cases h
theorem vals_DRs {K : Fg} {B : Bs} {pa : Option Addr} {H F : Hp} {pn : S} : ∀ (ds : List D) (vs : List V) (zs : List (Option V)) (ws : List Sl), ds.length = vs.length → zs.length = ws.length → Rel K B pa (zs ++ vs.map some) H F (ws ++ ds.map Sl.val) pn → DRs K F ds vs := by
  intro ds
  induction ds with
  | nil =>
    intro vs _ _ h _ _
    cases vs with
    | nil => exact .nil
    | cons _ _ => simp at h
  | cons d ds ih =>
    intro vs zs ws h hz R
    cases vs with
    | nil => simp at h
    | cons v vs =>
      refine .cons ?_ (ih vs (zs ++ [some v]) (ws ++ [.val d]) (by simpa using h) (by simp [hz]) (by simpa only [List.append_assoc, List.map_cons, List.singleton_append] using R))
      obtain ⟨o, h1, u, h2, h3⟩ := R.sl ws.length (.val d) (by simp)
      rw [← hz] at h1
      simp at h1
      subst h1
      cases h2
      exact h3
def dDisp (mk : List D → Rs) (ta : (AW S)) : (DW S) := fun ρ P => ta ρ fun ks ρ1 => gets (vals ks) fun ds => ds.length ≤ 1000 ∧ P (mk ds) ρ1
theorem disp_step {K : Fg} {mk : List D → Rs} {ta : (AW S)} {σ : L2.St} {H : Hp} {Q : VK} (h : liftO K (tmpD (dDisp mk ta)) σ H Q) : liftA K ta σ H fun vs H1 => vs.length ≤ sizeLine ∧ ∃ F ds, DRs K F ds vs ∧ Gives K F H1 (mk ds) Q := by
  obtain ⟨B, pa, τ, F, ρ, θ, P, R, hl, h, q⟩ := toE h
  refine ⟨B, pa, τ, F, ρ, θ, _, R, hl, h, fun ks ρ1 vs H1 F1 h1 hl1 hk R1 s1 => ?_⟩
  obtain ⟨ds, e1, hz, h1⟩ := gets_elim h1
  have e2 := vals_rds (ρ := ρ1) e1
  have R2 : Rel K B pa (σ ++ τ) H1 F1 (ρ1.sl ++ θ) ρ1.pn := R1.pops (by simp [hk])
  rw [e2] at R1
  have hds : ds.length = vs.length := by have := congrArg List.length e2; simp at this; omega
  exact ⟨Nat.le_trans (by omega : vs.length ≤ 1000) (by decide), F1, ds, vals_DRs ds vs _ _ hds R2.len R1, R2.gives fun v H' F' R' => q _ _ v H' F' h1 hl1 R'⟩
theorem ce_tup {x1} {ta : (AW S)} (h : CA (S := S) X es ta) : CE (S := S) X (.Tuple es x1 pos) (dDisp (fun ds => .val (.tuple ds)) ta) := pe_mono (pe_tup h) fun σ H Q q => by
  obtain ⟨B, pa, τ, F, ρ, θ, P, R, hl, h, q⟩ := disp_step q
  refine ⟨B, pa, τ, F, ρ, θ, P, R, hl, h, fun ks ρ' vs H' F' hp hl' hk R' s => ?_⟩
  obtain ⟨h1, F2, ds, h2, h3⟩ := q ks ρ' vs H' F' hp hl' hk R' s
  exact ⟨h1, fun p hp => h3.2.1 ds vs p rfl h2 h1 hp⟩
theorem ce_lst {ta : (AW S)} (h : CA (S := S) X es ta) : CE (S := S) X (.List es pos) (dDisp (fun ds => .own ds) ta) := pe_mono (pe_lst h) fun σ H Q q => by
  obtain ⟨B, pa, τ, F, ρ, θ, P, R, hl, h, q⟩ := disp_step q
  refine ⟨B, pa, τ, F, ρ, θ, P, R, hl, h, fun ks ρ' vs H' F' hp hl' hk R' s => ?_⟩
  obtain ⟨h1, F2, ds, h2, h3⟩ := q ks ρ' vs H' F' hp hl' hk R' s
  exact ⟨h1, fun p hp => h3 vs p h2 h1 hp⟩
end
end Dk
set_option Elab.async false
set_option linter.all false
set_option maxRecDepth 100000
set_option maxHeartbeats 2000000
/-! Dk, part 4: the operators over data. -/
namespace Dk
open PySem PySem.Spec PyProof.Rows L2
variable {S : Type} [StK S]

structure XO (X : Cx) (k : Nat) : Prop where
  calm : X.calm = true
  room : Room k X.A
  gd : X.A.guards = some []
  nd : X.N.Nodup
  pass : PassesOwn (model X.prog X.w) X.A X.env X.xe
theorem XO.mono {X : Cx} {k j : Nat} (h : XO X k) (hj : j ≤ k) : XO X j := ⟨h.calm, h.room.mono hj, h.gd, h.nd, h.pass⟩

theorem gets_ite {α : Type} {c : Prop} [Decidable c] {a : α} {k : α → Prop} : gets (if c then some a else none) k ↔ c ∧ k a := by
  by_cases h : c
  · rw [if_pos h]; exact ⟨fun q => ⟨h, q⟩, fun q => q.2⟩
  · rw [if_neg h]; exact ⟨fun q => q.elim, fun q => absurd q.1 h⟩
theorem some_ite {α : Type} {c : Prop} [Decidable c] {a b : α} (h : (if c then some a else none) = some b) : c ∧ a = b := by
  by_cases hc : c
  · rw [if_pos hc] at h; exact ⟨hc, Option.some.inj h⟩
  · rw [if_neg hc] at h; cases h

def bl (b : Bool) : Rs := .val (.bool b)
def ri (i : Int) : Rs := .val (.int i)
section
variable {K : Fg} {F H : Hp} {Q : VK}
theorem Gives.bl_ {b : Bool} (q : Gives K F H (bl b) Q) : Q (.bl b) H := q.1 _ (DR.bl_.mpr rfl)
theorem Gives.ri_ {i : Int} (q : Gives K F H (ri i) Q) : Q (.int i) H := q.1 _ (DR.int_.mpr rfl)
theorem Gives.str_ {x : Str} (q : Gives K F H (.val (.str x)) Q) : Q (.str x) H := q.1 _ (DR.str_.mpr rfl)
theorem Gives.non_ (q : Gives K F H (.val .none) Q) : Q .non H := q.1 _ (DR.non_.mpr rfl)
end
theorem DRs.inj_ints {K : Fg} {F : Hp} {ds : List D} {ns : List Int} {vs : List V} (h : DRs K F ds vs) (e : ds = ns.map .int) : vs = ns.map V.int := by subst e; exact h.ints
theorem DRs.inj_bls {K : Fg} {F : Hp} {ds : List D} {ns : List Bool} {vs : List V} (h : DRs K F ds vs) (e : ds = ns.map .bool) : vs = ns.map V.bl := by subst e; exact h.bls

/-! ### + - * // % ** -/
instance {i j : Int} : Decidable (CMulW i j) := by unfold CMulW; infer_instance
instance {i j : Int} : Decidable (CDivW i j) := by unfold CDivW; infer_instance
instance {i j : Int} : Decidable (CPow i j) := by unfold CPow; infer_instance
def addD : D → D → Option Rs
  | .int i, .int j => some (ri (i + j))
  | .list xs, .list ys => if xs.length + ys.length ≤ sizeLine then some (.own (xs ++ ys)) else none
  | .tuple xs, .tuple ys => if xs.length + ys.length ≤ sizeLine then some (.val (.tuple (xs ++ ys))) else none
  | .str x, .str y => if x.length + y.length ≤ sizeLine then some (.val (.str (x ++ y))) else none
  | _, _ => none
def subD : D → D → Option Rs
  | .int i, .int j => some (ri (i - j))
  | _, _ => none
def mulD : D → D → Option Rs
  | .int i, .int j => if CMulW i j then some (ri (i * j)) else none
  | .list xs, .int k => if -(2 ^ 63) ≤ k ∧ k < 2 ^ 63 ∧ xs.length * k.toNat ≤ sizeLine then some (.own (List.replicate k.toNat xs).flatten) else none
  | _, _ => none
def fdivD : D → D → Option Rs
  | .int i, .int j => if CDivW i j then some (ri (i / j)) else none
  | _, _ => none
def modD : D → D → Option Rs
  | .int i, .int j => if 0 < j then some (ri (i % j)) else none
  | _, _ => none
def powD : D → D → Option Rs
  | .int i, .int j => if CPow i j then some (ri (i ^ j.toNat)) else none
  | _, _ => none
section
variable {X : Cx} {k : Nat}
theorem len_rep {α : Type} (xs : List α) : ∀ n, (List.replicate n xs).flatten.length = n * xs.length
  | 0 => by simp
  | n + 1 => by rw [List.replicate_succ, List.flatten_cons, List.length_append, len_rep xs n, Nat.succ_mul]; omega
theorem od_add : OpD X (binaryOp .Add) addD := by
  intro pins s σ H x y v u Q I rx ry ⟨F, d, e, r, ⟨hz0, hF⟩, hd, he, hg, q⟩
  unfold addD at hg
  split at hg
  · cases hg
    exact op_add pins s σ H x y v u Q I rx ry ⟨_, _, hd.int, he.int, q.ri_⟩
  · obtain ⟨hz, rfl⟩ := some_ite hg
    obtain ⟨a, vs, rfl, ha, ra⟩ := hd.list hF
    obtain ⟨b, us, rfl, hb, rb⟩ := he.list hF
    exact op_cat pins s σ H _ _ v u Q I rx ry ⟨a, b, vs, us, rfl, rfl, ha, hb, by rw [ra.len, rb.len]; exact hz, fun p hp => q _ p (ra.append rb) (by rw [List.length_append, ra.len, rb.len]; exact hz) hp⟩
  · obtain ⟨hz, rfl⟩ := some_ite hg
    obtain ⟨a, vs, rfl, ha, ra⟩ := hd.tuple hF
    obtain ⟨b, us, rfl, hb, rb⟩ := he.tuple hF
    rename_i xs ys
    refine op_catA pins s σ H _ _ v u Q I rx ry ⟨a, b, vs, us, rfl, rfl, ha, hb, by rw [ra.len, rb.len]; exact hz, fun e => ?_, fun _ e => ?_, fun _ _ p hp => q.2.1 _ _ p rfl (ra.append rb) (by rw [List.length_append, ra.len, rb.len]; exact hz) hp⟩
    · subst e
      have : xs = [] := List.length_eq_zero_iff.mp (by have := ra.len; simpa using this.symm)
      subst this
      rcases he with he | ⟨_, _, _, h, _⟩
      · exact q.1 _ he
      · cases h
    · subst e
      have : ys = [] := List.length_eq_zero_iff.mp (by have := rb.len; simpa using this.symm)
      subst this
      rcases hd with hd | ⟨_, _, _, h, _⟩
      · exact q.1 _ (by simpa using hd)
      · cases h
  · obtain ⟨hz, rfl⟩ := some_ite hg
    exact op_add_str pins s σ H x y v u Q I rx ry ⟨_, _, hd.str, he.str, hz, q.str_⟩
  · cases hg
theorem od_sub : OpD X (binaryOp .Sub) subD := by
  intro pins s σ H x y v u Q I rx ry ⟨F, d, e, r, ⟨hz0, hF⟩, hd, he, hg, q⟩
  unfold subD at hg
  split at hg
  · cases hg
    exact op_sub pins s σ H x y v u Q I rx ry ⟨_, _, hd.int, he.int, q.ri_⟩
  · cases hg
theorem od_mul : OpD X (binaryOp .Mult) mulD := by
  intro pins s σ H x y v u Q I rx ry ⟨F, d, e, r, ⟨hz0, hF⟩, hd, he, hg, q⟩
  unfold mulD at hg
  split at hg
  · obtain ⟨hz, rfl⟩ := some_ite hg
    exact op_mulW pins s σ H x y v u Q I rx ry ⟨_, _, hd.int, he.int, hz, q.ri_⟩
  · obtain ⟨⟨h1, h2, h3⟩, rfl⟩ := some_ite hg
    obtain ⟨a, vs, rfl, ha, ra⟩ := hd.list hF
    exact op_rep pins s σ H _ y v u Q I rx ry ⟨a, _, vs, rfl, he.int, ha, h1, h2, by rw [ra.len]; exact h3, fun p hp => q _ p (ra.rep _) (by rw [len_rep, ra.len, Nat.mul_comm]; exact h3) hp⟩
  · cases hg
theorem od_fdiv : OpD X (binaryOp .FloorDiv) fdivD := by
  intro pins s σ H x y v u Q I rx ry ⟨F, d, e, r, ⟨hz0, hF⟩, hd, he, hg, q⟩
  unfold fdivD at hg
  split at hg
  · obtain ⟨hz, rfl⟩ := some_ite hg
    exact op_fdivW pins s σ H x y v u Q I rx ry ⟨_, _, hd.int, he.int, hz, q.ri_⟩
  · cases hg
theorem od_mod : OpD X (binaryOp .Mod) modD := by
  intro pins s σ H x y v u Q I rx ry ⟨F, d, e, r, ⟨hz0, hF⟩, hd, he, hg, q⟩
  unfold modD at hg
  split at hg
  · obtain ⟨hz, rfl⟩ := some_ite hg
    exact op_mod pins s σ H x y v u Q I rx ry ⟨_, _, hd.int, he.int, hz, q.ri_⟩
  · cases hg
theorem od_pow : OpD X (binaryOp .Pow) powD := by
  intro pins s σ H x y v u Q I rx ry ⟨F, d, e, r, ⟨hz0, hF⟩, hd, he, hg, q⟩
  unfold powD at hg
  split at hg
  · obtain ⟨hz, rfl⟩ := some_ite hg
    exact op_pow pins s σ H x y v u Q I rx ry ⟨_, _, hd.int, he.int, hz, q.ri_⟩
  · cases hg
def negD : D → Option Rs
  | .int i => some (ri (-i))
  | _ => none
theorem ud_neg : UnR X (unaryOp .USub) (UnD X.K negD) := by
  intro pins s σ H x v Q I rx ⟨F, d, r, ⟨hz0, hF⟩, hd, hg, q⟩
  unfold negD at hg
  split at hg
  · cases hg
    exact un_neg pins s σ H x v Q I rx ⟨_, hd.int, q.ri_⟩
  · cases hg
/-! ### comparisons -/
def cmpI (p : Int → Int → Bool) : D → D → Option Rs
  | .int i, .int j => some (bl (p i j))
  | _, _ => none
def ltD : D → D → Option Rs := cmpI fun i j => decide (i < j)
def leD : D → D → Option Rs := cmpI fun i j => decide (i ≤ j)
def gtD : D → D → Option Rs := cmpI fun i j => decide (j < i)
def geD : D → D → Option Rs := cmpI fun i j => decide (j ≤ i)
theorem od_lt : OpD X (compareOp .Lt) ltD := by
  intro pins s σ H x y v u Q I rx ry ⟨F, d, e, r, ⟨hz0, hF⟩, hd, he, hg, q⟩
  unfold ltD cmpI at hg
  split at hg
  · cases hg
    exact op_lt pins s σ H x y v u Q I rx ry ⟨_, _, hd.int, he.int, q.bl_⟩
  · cases hg
theorem od_le : OpD X (compareOp .LtE) leD := by
  intro pins s σ H x y v u Q I rx ry ⟨F, d, e, r, ⟨hz0, hF⟩, hd, he, hg, q⟩
  unfold leD cmpI at hg
  split at hg
  · cases hg
    exact op_le pins s σ H x y v u Q I rx ry ⟨_, _, hd.int, he.int, q.bl_⟩
  · cases hg
theorem od_gt : OpD X (compareOp .Gt) gtD := by
  intro pins s σ H x y v u Q I rx ry ⟨F, d, e, r, ⟨hz0, hF⟩, hd, he, hg, q⟩
  unfold gtD cmpI at hg
  split at hg
  · cases hg
    exact op_gt pins s σ H x y v u Q I rx ry ⟨_, _, hd.int, he.int, q.bl_⟩
  · cases hg
theorem od_ge : OpD X (compareOp .GtE) geD := by
  intro pins s σ H x y v u Q I rx ry ⟨F, d, e, r, ⟨hz0, hF⟩, hd, he, hg, q⟩
  unfold geD cmpI at hg
  split at hg
  · cases hg
    exact op_ge pins s σ H x y v u Q I rx ry ⟨_, _, hd.int, he.int, q.bl_⟩
  · cases hg
mutual
theorem DR.dp {K : Fg} {F H : Hp} (e : Le F H) : ∀ (d : D) (v : V), d.canLay0 = true → DR K F d v → Dp K H v d
  | .none, v, _, h => by rw [DR.non_.mp h]; exact .non
  | .bool b, v, _, h => by rw [DR.bl_.mp h]; exact .bl b
  | .int i, v, _, h => by rw [DR.int_.mp h]; exact .int i
  | .str x, v, _, h => by rw [DR.str_.mp h]; exact .str x
  | .list ds, v, c, h => by
    obtain ⟨a, vs, rfl, h2, h3⟩ := DR.list_.mp h
    exact .lst (.inl (.inl (e _ _ h2))) (DRs.dp e ds vs (by simpa [PyData.canLay0] using c) h3)
  | .tuple ds, v, c, h => by
    obtain ⟨a, vs, rfl, h2, h3⟩ := DR.tuple_.mp h
    exact .tup (e.t h2) (DRs.dp e ds vs (by simpa [PyData.canLay0] using c) h3)
  | .dict kvs, v, c, h => by simp [PyData.canLay0] at c
theorem DRs.dp {K : Fg} {F H : Hp} (e : Le F H) : ∀ (ds : List D) (vs : List V), PyData.canLayAll0 ds = true → DRs K F ds vs → DpAll K H vs ds
  | [], vs, _, h => by rw [DRs.nil_.mp h]; exact .nil
  | d :: ds, vs, c, h => by
    obtain ⟨v, r, rfl, h2, h3⟩ := DRs.cons_.mp h
    simp only [PyData.canLayAll0, Bool.and_eq_true] at c
    exact .cons (DR.dp e d v c.1 h2) (DRs.dp e ds r c.2 h3)
end
theorem RdD.dp {K : Fg} {F H : Hp} {d : D} {v : V} (h : RdD K H F d v) (e : Le F H) (c : SeqAt.shaped d = true) : Dp K H v d := by
  have c1 := SeqAt.canLay_of_shaped c
  rcases h with h | ⟨ds, a, vs, rfl, rfl, h1, h2⟩
  · exact h.dp e d v c1
  · exact .lst (.inl (.inl h1)) (h2.dp e ds vs (by simpa [PyData.canLay0] using c1))
def isS : D → Bool
  | .str _ => true
  | _ => false
theorem isS_str {d : D} (h : isS d = true) : ∃ x, d = .str x := by cases d <;> first | exact ⟨_, rfl⟩ | cases h
/-- against an empty one: no item is compared -/
def nilE : D → D → Bool
  | .list _, .list [] => true
  | .tuple _, .tuple [] => true
  | _, _ => false
def eqOk (d e : D) : Bool := ((isS d && isS e) || (SeqAt.shaped d && SeqAt.shaped e)) || nilE d e
theorem nilE_elim {K : Fg} {F H : Hp} {d e : D} {v u : V} (c : nilE d e = true) (hd : RdD K H F d v) (he : RdD K H F e u) (hF : Le F H) : (∃ ds a b vs, d = .list ds ∧ e = .list [] ∧ v = .ref a ∧ u = .ref b ∧ SqL K H a vs ∧ SqL K H b [] ∧ vs.length = ds.length) ∨ (∃ ds a b vs, d = .tuple ds ∧ e = .tuple [] ∧ v = .ref a ∧ u = .ref b ∧ SqT K H a vs ∧ SqT K H b [] ∧ vs.length = ds.length) := by
  unfold nilE at c
  split at c
  · obtain ⟨a, vs, rfl, h1, h2⟩ := hd.list hF
    obtain ⟨b, us, rfl, g1, g2⟩ := he.list hF
    rw [DRs.nil_.mp g2] at g1
    exact .inl ⟨_, a, b, vs, rfl, rfl, rfl, rfl, .inl (.inl h1), .inl (.inl g1), h2.len⟩
  · obtain ⟨a, vs, rfl, h1, h2⟩ := hd.tuple hF
    obtain ⟨b, us, rfl, g1, g2⟩ := he.tuple hF
    rw [DRs.nil_.mp g2] at g1
    exact .inr ⟨_, a, b, vs, rfl, rfl, rfl, rfl, h1, g1, h2.len⟩
  · cases c
theorem eqv_lnil {xs : List D} : PyData.eqv (.list xs) (.list []) = xs.isEmpty := by cases xs <;> rfl
theorem eqv_tnil {xs : List D} : PyData.eqv (.tuple xs) (.tuple []) = xs.isEmpty := by cases xs <;> rfl
theorem isEmpty_len {α β : Type} {xs : List α} {ys : List β} (h : ys.length = xs.length) : (ys.length == 0) = xs.isEmpty := by
  rw [h]; cases xs <;> rfl
def eqD (d e : D) : Option Rs := if eqOk d e = true then some (bl (PyData.eqv d e)) else none
def neD (d e : D) : Option Rs := if eqOk d e = true then some (bl (!PyData.eqv d e)) else none
theorem eqv_str {x y : Str} : PyData.eqv (.str x) (.str y) = decide (V.str x = V.str y) := by
  rw [Bool.eq_iff_iff]
  simp [PyData.eqv]
theorem od_eq (hx : XO X k) : OpD X (compareOp .Eq) eqD := by
  intro pins s σ H x y v u Q I rx ry ⟨F, d, e, r, ⟨hz0, hF⟩, hd, he, hg, q⟩
  obtain ⟨c, rfl⟩ := some_ite hg
  by_cases hs : (isS d && isS e) = true
  · rw [Bool.and_eq_true] at hs
    obtain ⟨a, rfl⟩ := isS_str hs.1
    obtain ⟨b, rfl⟩ := isS_str hs.2
    have hx := hd.str
    have hy := he.str
    subst hx hy
    exact op_eq pins s σ H _ _ v u Q I rx ry ⟨rfl, by rw [← eqv_str]; exact q.bl_⟩
  · by_cases hc : (SeqAt.shaped d && SeqAt.shaped e) = true
    · rw [Bool.and_eq_true] at hc
      exact op_eqD hx.room.units pins s σ H x y v u Q I rx ry ⟨d, e, hd.dp hF hc.1, he.dp hF hc.2, hc.1, hc.2, q.bl_⟩
    · have c : nilE d e = true := by
        unfold eqOk at c
        rw [Bool.or_eq_true, Bool.or_eq_true] at c
        rcases c with (c | c) | c
        · exact absurd c hs
        · exact absurd c hc
        · exact c
      rcases nilE_elim c hd he hF with ⟨ds, a, b, vs, rfl, rfl, rfl, rfl, h1, h2, hl⟩ | ⟨ds, a, b, vs, rfl, rfl, rfl, rfl, h1, h2, hl⟩
      · cases rx
        cases ry
        obtain ⟨its, r1, ⟨o1, n1, p1, p2, _, p3⟩, _⟩ := I.list h1
        obtain ⟨us, r2, ⟨o2, n2, p4, p5, _, p6⟩, _⟩ := I.list h2
        cases r2
        have hne : ds ≠ [] := fun z => hc (by subst z; rfl)
        have hn : (its.toArray.size != ([] : List Value).toArray.size) = true := by
          have := r1.length
          have h0 : ds.length ≠ 0 := fun z => hne (List.length_eq_zero_iff.mp z)
          simp
          intro z
          rw [z, hl] at this
          exact h0 this
        have hv : false = PyData.eqv (.list ds) (.list []) := by
          rw [eqv_lnil]
          cases ds with
          | nil => exact absurd rfl hne
          | cons _ _ => rfl
        exact SeqAt.RcAt.lists_lengths ⟨o1, p1, p2, n1, p3⟩ ⟨o2, p4, p5, n2, p6⟩ hn (Nat.lt_of_le_of_lt (Nat.le_add_right _ 64) hx.room.units) _ _ _ _ ⟨.bl _, H, I, rfl, by rw [hv]; exact q.bl_⟩
      · cases rx
        cases ry
        obtain ⟨its, r1, l1, _⟩ := I.tuple h1
        obtain ⟨us, r2, l2, _⟩ := I.tuple h2
        cases r2
        have e1 : (((List.range (min its.toArray.size ([] : List Value).toArray.size)).all fun _ => true) && its.toArray.size == ([] : List Value).toArray.size) = PyData.eqv (.tuple ds) (.tuple []) := by
          rw [eqv_tnil, ← isEmpty_len hl, r1.length]
          simp
        have := SeqAt.RcAt.tuples (A := X.A) (e := fun _ => true) l1 l2 (Nat.lt_of_le_of_lt (Nat.le_add_right _ 64) hx.room.units) (fun j h1 h2 => absurd h2 (by simp)) X.prog X.w
        exact this _ _ ⟨.bl _, H, I, rfl, by rw [e1]; exact q.bl_⟩
theorem od_ne (hx : XO X k) : OpD X (compareOp .NotEq) neD := by
  intro pins s σ H x y v u Q I rx ry ⟨F, d, e, r, ⟨hz0, hF⟩, hd, he, hg, q⟩
  obtain ⟨c, rfl⟩ := some_ite hg
  by_cases hs : (isS d && isS e) = true
  · rw [Bool.and_eq_true] at hs
    obtain ⟨a, rfl⟩ := isS_str hs.1
    obtain ⟨b, rfl⟩ := isS_str hs.2
    have hx := hd.str
    have hy := he.str
    subst hx hy
    exact op_ne pins s σ H _ _ v u Q I rx ry ⟨rfl, by rw [← eqv_str]; exact q.bl_⟩
  · by_cases hc : (SeqAt.shaped d && SeqAt.shaped e) = true
    · rw [Bool.and_eq_true] at hc
      exact op_neD hx.room.units pins s σ H x y v u Q I rx ry ⟨d, e, hd.dp hF hc.1, he.dp hF hc.2, hc.1, hc.2, q.bl_⟩
    · have c : nilE d e = true := by
        unfold eqOk at c
        rw [Bool.or_eq_true, Bool.or_eq_true] at c
        rcases c with (c | c) | c
        · exact absurd c hs
        · exact absurd c hc
        · exact c
      rcases nilE_elim c hd he hF with ⟨ds, a, b, vs, rfl, rfl, rfl, rfl, h1, h2, hl⟩ | ⟨ds, a, b, vs, rfl, rfl, rfl, rfl, h1, h2, hl⟩
      · cases rx
        cases ry
        obtain ⟨its, r1, ⟨o1, n1, p1, p2, _, p3⟩, _⟩ := I.list h1
        obtain ⟨us, r2, ⟨o2, n2, p4, p5, _, p6⟩, _⟩ := I.list h2
        cases r2
        have hne : ds ≠ [] := fun z => hc (by subst z; rfl)
        have hn : (its.toArray.size != ([] : List Value).toArray.size) = true := by
          have := r1.length
          have h0 : ds.length ≠ 0 := fun z => hne (List.length_eq_zero_iff.mp z)
          simp
          intro z
          rw [z, hl] at this
          exact h0 this
        have hv : true = !PyData.eqv (.list ds) (.list []) := by
          rw [eqv_lnil]
          cases ds with
          | nil => exact absurd rfl hne
          | cons _ _ => rfl
        exact SeqAt.RcNeAt.lists_lengths ⟨o1, p1, p2, n1, p3⟩ ⟨o2, p4, p5, n2, p6⟩ hn (Nat.lt_of_le_of_lt (Nat.le_add_right _ 64) hx.room.units) _ _ _ _ ⟨.bl _, H, I, rfl, by rw [hv]; exact q.bl_⟩
      · cases rx
        cases ry
        obtain ⟨its, r1, l1, _⟩ := I.tuple h1
        obtain ⟨us, r2, l2, _⟩ := I.tuple h2
        cases r2
        have e1 : (((List.range (min its.toArray.size ([] : List Value).toArray.size)).all fun _ => true) && its.toArray.size == ([] : List Value).toArray.size) = PyData.eqv (.tuple ds) (.tuple []) := by
          rw [eqv_tnil, ← isEmpty_len hl, r1.length]
          simp
        have := SeqAt.RcNeAt.tuples (A := X.A) (e := fun _ => true) l1 l2 (Nat.lt_of_le_of_lt (Nat.le_add_right _ 64) hx.room.units) (fun j h1 h2 => absurd h2 (by simp)) X.prog X.w
        exact this _ _ ⟨.bl _, H, I, rfl, by rw [e1]; exact q.bl_⟩
/-! in: flat items, or data in a list -/
def flatD : D → Bool
  | .none => true
  | .bool _ => true
  | .int _ => true
  | .str _ => true
  | _ => false
theorem flat_V {K : Fg} {F : Hp} {d : D} {v : V} (h : DR K F d v) (f : flatD d = true) : flatV v = true := by
  cases d <;> first | (rw [DR.non_.mp h]; rfl) | (rw [DR.bl_.mp h]; rfl) | (rw [DR.int_.mp h]; rfl) | (rw [DR.str_.mp h]; rfl) | cases f
theorem flat_all {K : Fg} {F : Hp} : ∀ {ds : List D} {vs : List V}, DRs K F ds vs → ds.all flatD = true → vs.all flatV = true
  | [], vs, h, _ => by rw [DRs.nil_.mp h]; rfl
  | d :: ds, vs, h, f => by
    obtain ⟨v, r, rfl, h2, h3⟩ := DRs.cons_.mp h
    rw [List.all_cons, Bool.and_eq_true] at f ⊢
    exact ⟨flat_V h2 f.1, flat_all h3 f.2⟩
theorem flat_eq {K : Fg} {F : Hp} {d e : D} {v u : V} (h : DR K F d v) (f : flatD d = true) (h' : DR K F e u) (f' : flatD e = true) : eqV v u = PyData.eqv d e := by
  cases d with
  | list _ => cases f
  | tuple _ => cases f
  | dict _ => cases f
  | none =>
    rw [DR.non_.mp h]
    cases e <;> first | (rw [DR.non_.mp h']; rfl) | (rw [DR.bl_.mp h']; rfl) | (rw [DR.int_.mp h']; rfl) | (rw [DR.str_.mp h']; rfl) | cases f'
  | bool a =>
    rw [DR.bl_.mp h]
    cases e <;> first | (rw [DR.non_.mp h']; cases a <;> rfl) | (rw [DR.bl_.mp h']; simp [eqV, PyData.eqv]) | (rw [DR.int_.mp h']; simp [eqV, PyData.eqv]) | (rw [DR.str_.mp h']; cases a <;> rfl) | cases f'
  | int a =>
    rw [DR.int_.mp h]
    cases e <;> first | (rw [DR.non_.mp h']; rfl) | (rw [DR.bl_.mp h']; simp [eqV, PyData.eqv]) | (rw [DR.int_.mp h']; simp [eqV, PyData.eqv]) | (rw [DR.str_.mp h']; rfl) | cases f'
  | str a =>
    rw [DR.str_.mp h]
    cases e <;> first | (rw [DR.non_.mp h']; rfl) | (rw [DR.bl_.mp h']; simp [eqV, PyData.eqv]) | (rw [DR.int_.mp h']; rfl) | (rw [DR.str_.mp h']; simp [eqV, PyData.eqv]) | cases f'
end
end Dk
set_option Elab.async false
set_option linter.all false
set_option maxRecDepth 100000
set_option maxHeartbeats 2000000
/-! Dk, part 4b: in, is, subscripts, slices, built-in functions over data. -/
namespace Dk
open PySem PySem.Spec PyProof.Rows L2
variable {S : Type} [StK S]
section
variable {X : Cx} {k : Nat}
def anyEq (x : D) (ds : List D) : Bool := ds.any fun z => PyData.eqv z x
def inD (neg : Bool) (x : D) : D → Option Rs
  | .list ds => if flatD x = true ∧ ds.all flatD = true then some (bl (if neg then !anyEq x ds else anyEq x ds)) else if SeqAt.shaped x = true ∧ SeqAt.shaped (.list ds) = true then some (bl (if neg then !anyEq x ds else anyEq x ds)) else none
  | .tuple ds => if flatD x = true ∧ ds.all flatD = true then some (bl (if neg then !anyEq x ds else anyEq x ds)) else none
  | _ => none
theorem any_flat {K : Fg} {F G : Hp} {d : D} {v : V} (h : DR K F d v) (f : flatD d = true) : ∀ {ds : List D} {vs : List V}, DRs K G ds vs → ds.all flatD = true → inV v vs = anyEq d ds
  | [], vs, h', _ => by rw [DRs.nil_.mp h']; rfl
  | e :: ds, vs, h', f' => by
    obtain ⟨u, r, rfl, h2, h3⟩ := DRs.cons_.mp h'
    rw [List.all_cons, Bool.and_eq_true] at f'
    have ih := any_flat h f h3 f'.2
    unfold inV anyEq at ih ⊢
    rw [List.any_cons, List.any_cons, ih]
    congr 1
    have g1 : DR K (fun _ => none) e u := by
      cases e <;> first | (rw [DR.non_.mp h2]; exact DR.non_.mpr rfl) | (rw [DR.bl_.mp h2]; exact DR.bl_.mpr rfl) | (rw [DR.int_.mp h2]; exact DR.int_.mpr rfl) | (rw [DR.str_.mp h2]; exact DR.str_.mpr rfl) | exact absurd f'.1 (by simp [flatD])
    have g2 : DR K (fun _ => none) d v := by
      cases d <;> first | (rw [DR.non_.mp h]; exact DR.non_.mpr rfl) | (rw [DR.bl_.mp h]; exact DR.bl_.mpr rfl) | (rw [DR.int_.mp h]; exact DR.int_.mpr rfl) | (rw [DR.str_.mp h]; exact DR.str_.mpr rfl) | exact absurd f (by simp [flatD])
    exact flat_eq g1 f'.1 g2 f
theorem RdD.flat {K : Fg} {F H : Hp} {d : D} {v : V} (h : RdD K H F d v) (f : flatD d = true) : DR K F d v := by
  rcases h with h | ⟨ds, a, vs, rfl, _⟩
  · exact h
  · cases f
theorem od_in (hx : XO X k) : OpD X (compareOp .In) (inD false) := by
  intro pins s σ H x y v u Q I rx ry ⟨F, d, e, r, ⟨hz0, hF⟩, hd, he, hg, q⟩
  unfold inD at hg
  split at hg
  · rename_i ds
    split at hg
    · rename_i hc
      cases hg
      obtain ⟨b, us, rfl, hb, rb⟩ := he.list hF
      refine op_in_seq pins s σ H x _ v u Q I rx ry ⟨b, us, rfl, .inl (.inl (.inl hb)), flat_V (hd.flat hc.1) hc.1, flat_all rb hc.2, ?_⟩
      rw [any_flat (hd.flat hc.1) hc.1 rb hc.2]
      exact q.bl_
    · obtain ⟨⟨c1, c2⟩, rfl⟩ := some_ite hg
      exact op_inD (by have := hx.room.un; omega) pins s σ H x y v u Q I rx ry ⟨d, ds, hd.dp hF c1, he.dp hF c2, c1, c2, q.bl_⟩
  · rename_i ds
    obtain ⟨hc, rfl⟩ := some_ite hg
    obtain ⟨b, us, rfl, hb, rb⟩ := he.tuple hF
    refine op_in_seq pins s σ H x _ v u Q I rx ry ⟨b, us, rfl, .inr hb, flat_V (hd.flat hc.1) hc.1, flat_all rb hc.2, ?_⟩
    rw [any_flat (hd.flat hc.1) hc.1 rb hc.2]
    exact q.bl_
  · cases hg
theorem od_notin (hx : XO X k) : OpD X (compareOp .NotIn) (inD true) := by
  intro pins s σ H x y v u Q I rx ry ⟨F, d, e, r, ⟨hz0, hF⟩, hd, he, hg, q⟩
  unfold inD at hg
  split at hg
  · rename_i ds
    split at hg
    · rename_i hc
      cases hg
      obtain ⟨b, us, rfl, hb, rb⟩ := he.list hF
      refine op_notIn_seq pins s σ H x _ v u Q I rx ry ⟨b, us, rfl, .inl (.inl (.inl hb)), flat_V (hd.flat hc.1) hc.1, flat_all rb hc.2, ?_⟩
      rw [any_flat (hd.flat hc.1) hc.1 rb hc.2]
      exact q.bl_
    · obtain ⟨⟨c1, c2⟩, rfl⟩ := some_ite hg
      exact op_notInD (by have := hx.room.un; omega) pins s σ H x y v u Q I rx ry ⟨d, ds, hd.dp hF c1, he.dp hF c2, c1, c2, q.bl_⟩
  · rename_i ds
    obtain ⟨hc, rfl⟩ := some_ite hg
    obtain ⟨b, us, rfl, hb, rb⟩ := he.tuple hF
    refine op_notIn_seq pins s σ H x _ v u Q I rx ry ⟨b, us, rfl, .inr hb, flat_V (hd.flat hc.1) hc.1, flat_all rb hc.2, ?_⟩
    rw [any_flat (hd.flat hc.1) hc.1 rb hc.2]
    exact q.bl_
  · cases hg
def isNone : D → Bool
  | .none => true
  | _ => false
theorem RdD.isNone {K : Fg} {F H : Hp} {d : D} {v : V} (h : RdD K H F d v) (e : Le F H) : decide (v = .non) = Dk.isNone d := by
  cases d with
  | none => rw [h.none_]; rfl
  | bool b => rw [h.bool]; rfl
  | int i => rw [h.int]; rfl
  | str x => rw [h.str]; rfl
  | list ds => obtain ⟨a, vs, rfl, _⟩ := h.list e; rfl
  | tuple ds => obtain ⟨a, vs, rfl, _⟩ := h.tuple e; rfl
  | dict ds => obtain ⟨a, rfl, _⟩ := h.dict e; rfl
def isD (neg : Bool) (d : D) : D → Option Rs
  | .none => some (bl (if neg then !isNone d else isNone d))
  | _ => none
theorem od_is : OpD X (compareOp .Is) (isD false) := by
  intro pins s σ H x y v u Q I rx ry ⟨F, d, e, r, ⟨hz0, hF⟩, hd, he, hg, q⟩
  unfold isD at hg
  split at hg
  · cases hg
    exact op_isN pins s σ H x y v u Q I rx ry ⟨he.none_, by rw [hd.isNone hF]; exact q.bl_⟩
  · cases hg
theorem od_isnot : OpD X (compareOp .IsNot) (isD true) := by
  intro pins s σ H x y v u Q I rx ry ⟨F, d, e, r, ⟨hz0, hF⟩, hd, he, hg, q⟩
  unfold isD at hg
  split at hg
  · cases hg
    exact op_notN pins s σ H x y v u Q I rx ry ⟨he.none_, by rw [hd.isNone hF]; exact q.bl_⟩
  · cases hg
/-! ### subscripts, slices -/
def ixD : D → D → Option Rs
  | .list ds, .int i => (atI ds i).map .val
  | .tuple ds, .int i => (atI ds i).map .val
  | _, _ => none
theorem DRs.atI {K : Fg} {F : Hp} {ds : List D} {vs : List V} {i : Int} {d : D} (h : DRs K F ds vs) (e : L2.atI ds i = some d) : ∃ v, L2.atI vs i = some v ∧ DR K F d v := by
  unfold L2.atI at e ⊢
  rw [h.len]
  obtain ⟨j, e1, e2⟩ := Option.bind_eq_some_iff.mp e
  obtain ⟨v, e3, e4⟩ := h.get e2
  exact ⟨v, by rw [e1]; exact e3, e4⟩
theorem ix_d : IxR X fun x y H Q => ∃ F d e r, (Szs H ∧ Le F H) ∧ RdD X.K H F d x ∧ RdD X.K H F e y ∧ ixD d e = some r ∧ Gives X.K F H r Q := by
  intro value slice pins s σ H x y v u Q I rx ry ⟨F, d, e, r, ⟨hz0, hF⟩, hd, he, hg, q⟩ hsub
  unfold ixD at hg
  split at hg
  · obtain ⟨z, e1, rfl⟩ := Option.map_eq_some_iff.mp hg
    obtain ⟨a, vs, rfl, ha, ra⟩ := hd.list hF
    obtain ⟨w, e2, e3⟩ := ra.atI e1
    exact ix_list value slice pins s σ H _ y v u Q I rx ry ⟨a, vs, _, w, rfl, he.int, .inl (.inl ha), e2, q.1 _ e3⟩ hsub
  · obtain ⟨z, e1, rfl⟩ := Option.map_eq_some_iff.mp hg
    obtain ⟨a, vs, rfl, ha, ra⟩ := hd.tuple hF
    obtain ⟨w, e2, e3⟩ := ra.atI e1
    exact ix_tup value slice pins s σ H _ y v u Q I rx ry ⟨a, vs, _, w, rfl, he.int, ha, e2, q.1 _ e3⟩ hsub
  · cases hg
variable {e a b : Expr} {es : List Expr} {pos : Pos} {t ta tb : (OW S)}
theorem ce_sub (ha : CO (S := S) X a ta) (hb : CO (S := S) X b tb) (hs : PlainIx b := by exact fun _ _ => rfl) : CE (S := S) X (.Subscript a b pos) (dBin ixD ta tb) := ce_ix ix_d ha hb hs
def cutD (ds : List D) (lo hi : Option Int) : List D := (ds.drop (HT.sIx ds.length 0 lo)).take (HT.sIx ds.length ds.length hi - HT.sIx ds.length 0 lo)
theorem DRs.cut {K : Fg} {F : Hp} {ds : List D} {vs : List V} (h : DRs K F ds vs) (lo hi : Option Int) : DRs K F (cutD ds lo hi) (cutV vs lo hi) := by
  unfold cutD cutV
  rw [h.len]
  exact (h.drop _).take _
def slD (d : D) (lo hi : Option Int) : Option Rs := match d with
  | .list ds => some (.own (cutD ds lo hi))
  | .tuple ds => some (.val (.tuple (cutD ds lo hi)))
  | _ => none
theorem sl_d : SlR X fun x lo hi H Q => ∃ F d r, (Szs H ∧ Le F H) ∧ RdD X.K H F d x ∧ slD d lo hi = some r ∧ Gives X.K F H r Q := by
  intro pins s σ H x v vl vu lo hi sl Q I rx hs pl pu ⟨F, d, r, ⟨hz0, hF⟩, hd, hg, q⟩
  unfold slD at hg
  split at hg
  · cases hg
    obtain ⟨a, vs, rfl, ha, ra⟩ := hd.list hF
    exact sl_list pins s σ H _ v vl vu lo hi sl Q I rx hs pl pu ⟨a, vs, rfl, .inl (.inl ha), fun p hp => q _ p (ra.cut lo hi) (Nat.le_trans (cutV_length _ _ _) (hz0.l ha)) hp⟩
  · cases hg
    obtain ⟨a, vs, rfl, ha, ra⟩ := hd.tuple hF
    refine sl_tupA pins s σ H _ v vl vu lo hi sl Q I rx hs pl pu ⟨a, vs, rfl, ha, fun w => ?_, fun _ p hp => q.2.1 _ _ p rfl (ra.cut lo hi) (Nat.le_trans (cutV_length _ _ _) (hz0.t ha)) hp⟩
    refine q.1 _ ?_
    rename_i ds
    have e : cutD ds lo hi = ds := by
      unfold cutD
      rw [ra.len] at w
      rw [w.1, w.2]
      simp
    rw [e]
    rcases hd with hd | ⟨_, _, _, h, _⟩
    · exact hd
    · cases h
  · cases hg
/-- a part of a slice -/
abbrev PW_ (S : Type := Option Pen) := (En S) → (Option Int → (En S) → Prop) → Prop
def liftP (K : Fg) (t : (PW_ S)) : L2.TO := fun σ H Q => ∃ B pa τ F ρ θ P, Rel K B pa (σ ++ τ) H F (ρ.sl ++ θ) ρ.pn ∧ ρ.sl.length = σ.length ∧ t ρ P ∧
  ∀ o ρ' H' F', P o ρ' → ρ'.sl.length = σ.length → Rel K B pa (σ ++ τ) H' F' (ρ'.sl ++ θ) ρ'.pn → Q o H'
abbrev CP (X : Cx) (e : Option Expr) (t : (PW_ S)) : Prop := PO X e (liftP X.K t)
def pNone : (PW_ S) := fun ρ P => P none ρ
def D.int? : D → Option Int
  | .int i => some i
  | _ => none
@[simp] theorem D.int?_int (i : Int) : D.int? (.int i) = some i := rfl
theorem D.int?_some {d : D} {i : Int} (h : D.int? d = some i) : d = .int i := by cases d <;> cases h <;> rfl
def pSome (t : (OW S)) : (PW_ S) := fun ρ P => t ρ fun k ρ1 => gets ((k.rd ρ1).bind D.int?) fun i => P (some i) ρ1
theorem po_mono {o : Option Expr} {t u : L2.TO} (h : PO X o t) (m : ∀ σ H Q, u σ H Q → t σ H Q) : PO X o u := ⟨fun pins s σ H Q I q => h.run pins s σ H Q I (m σ H Q q)⟩
theorem cp_none : CP (S := S) X none pNone := po_mono po_none fun σ H Q ⟨B, pa, τ, F, ρ, θ, P, R, hl, h, q⟩ => q none ρ H F h hl R
theorem cp_some (h : CO (S := S) X e t) : CP (S := S) X (some e) (pSome t) := po_mono (po_some h) fun σ H Q ⟨B, pa, τ, F, ρ, θ, P, R, hl, h, q⟩ => by
  refine ⟨B, pa, τ, F, ρ, θ, _, R, hl, h, fun k ρ' v H' F' hp hl' R' hs => ?_⟩
  obtain ⟨i, e, hp⟩ := gets_elim hp
  obtain ⟨d, e1, e2⟩ := Option.bind_eq_some_iff.mp e
  have e3 := D.int?_some e2
  subst e3
  have hτ : τ.length = θ.length := by have := R'.pop.len; simp at this; omega
  have rd := read_at (τ := τ ++ [some v]) (θ := θ ++ [k.sl]) (by rw [← List.append_assoc, ← List.append_assoc]; exact R') hl' τ.length (app_last _ _) (getN hτ.symm) hs e1
  exact ⟨i, rd.int, q (some i) ρ' H' F' hp hl' R'.pop⟩
def dSl (t : (OW S)) (lo hi : (PW_ S)) : (DW S) := fun ρ P => t ρ fun k ρ1 => lo ρ1 fun l ρ2 => hi ρ2 fun h ρ3 => gets (k.rd ρ3) fun d => gets (slD d l h) fun r => P r ρ3
theorem ce_slice {lo hi : Option Expr} {tl th : (PW_ S)} {p2 : Pos} (he : CO (S := S) X e t) (hl : CP (S := S) X lo tl) (hh : CP (S := S) X hi th) : CE (S := S) X (.Subscript e (.Slice lo hi none p2) pos) (dSl t tl th) := pe_mono (pe_slice sl_d he hl hh) fun σ H Q h => by
  obtain ⟨B, pa, τ, F, ρ, θ, P, R, hl, h, q⟩ := toE h
  refine ⟨B, pa, τ, F, ρ, θ, _, R, hl, h, fun k1 ρ1 v1 H1 F1 h1 hl1 R1 s1 => ?_⟩
  refine ⟨B, pa, τ ++ [some v1], F1, ρ1, θ ++ [k1.sl], _, by simpa only [List.append_assoc] using R1, hl1, h1, fun l ρ2 H2 F2 h2 hl2 R2 => ?_⟩
  refine ⟨B, pa, τ ++ [some v1], F2, ρ2, θ ++ [k1.sl], _, R2, hl2, h2, fun u ρ3 H3 F3 h3 hl3 R3 => ?_⟩
  obtain ⟨d, e1, h3⟩ := gets_elim h3
  obtain ⟨r, e2, h3⟩ := gets_elim h3
  have R4 : Rel X.K B pa (σ ++ τ ++ [some v1]) H3 F3 (ρ3.sl ++ θ ++ [k1.sl]) ρ3.pn := by simpa only [List.append_assoc] using R3
  have hτ : τ.length = θ.length := by have := R4.pop.len; simp at this; omega
  exact ⟨F3, d, r, ⟨R3.sz, R3.fh⟩, read_at R3 hl3 τ.length (app_last _ _) (getN hτ.symm) s1 e1, e2, R4.pop.gives fun v H' F' R' => q _ _ v H' F' h3 hl3 R'⟩
end
end Dk
set_option Elab.async false
set_option linter.all false
set_option maxRecDepth 100000
set_option maxHeartbeats 2000000
/-! Dk, part 4c: built-in functions over data. -/
namespace Dk
open PySem PySem.Spec PyProof.Rows L2
variable {S : Type} [StK S]
theorem b_len : bootBuiltins "len" = some (.builtin "len") := by decide +kernel
theorem b_list : bootBuiltins "list" = some (.type "list") := by decide +kernel
theorem b_tuple : bootBuiltins "tuple" = some (.type "tuple") := by decide +kernel
theorem b_sum : bootBuiltins "sum" = some (.builtin "sum") := by decide +kernel
theorem b_max : bootBuiltins "max" = some (.builtin "max") := by decide +kernel
theorem b_min : bootBuiltins "min" = some (.builtin "min") := by decide +kernel
theorem b_all : bootBuiltins "all" = some (.builtin "all") := by decide +kernel
theorem b_any : bootBuiltins "any" = some (.builtin "any") := by decide +kernel
theorem b_int : bootBuiltins "int" = some (.type "int") := by decide +kernel
theorem b_abs : bootBuiltins "abs" = some (.builtin "abs") := by decide +kernel
theorem b_sorted : bootBuiltins "sorted" = some (.builtin "sorted") := by decide +kernel
theorem b_isinstance : bootBuiltins "isinstance" = some (.builtin "isinstance") := by decide +kernel
theorem b_repr : bootBuiltins "repr" = some (.builtin "repr") := by decide +kernel
theorem b_range : bootBuiltins "range" = some (.type "range") := by decide +kernel
theorem b_enumerate : bootBuiltins "enumerate" = some (.type "enumerate") := by decide +kernel
theorem b_zip : bootBuiltins "zip" = some (.type "zip") := by decide +kernel
theorem b_tyint : bootBuiltins "int" = some (.type "int") := b_int
theorem b_str : bootBuiltins "str" = some (.type "str") := by decide +kernel
theorem b_bool : bootBuiltins "bool" = some (.type "bool") := by decide +kernel
theorem b_dict : bootBuiltins "dict" = some (.type "dict") := by decide +kernel
theorem b_set : bootBuiltins "set" = some (.type "set") := by decide +kernel

def ints? : List D → Option (List Int)
  | [] => some []
  | .int i :: r => (ints? r).map (i :: ·)
  | _ :: _ => none
theorem ints?_eq : ∀ {ds : List D} {ns : List Int}, ints? ds = some ns → ds = ns.map .int
  | [], ns, h => by cases h; rfl
  | .int i :: r, ns, h => by
    obtain ⟨ms, e1, rfl⟩ := Option.map_eq_some_iff.mp h
    rw [ints?_eq e1]
    rfl
  | .none :: _, ns, h => by cases h
  | .bool _ :: _, ns, h => by cases h
  | .str _ :: _, ns, h => by cases h
  | .list _ :: _, ns, h => by cases h
  | .tuple _ :: _, ns, h => by cases h
  | .dict _ :: _, ns, h => by cases h
@[simp] theorem ints?_map : ∀ ns : List Int, ints? (ns.map .int) = some ns
  | [] => rfl
  | n :: ns => by
    show (ints? (ns.map .int)).map (n :: ·) = _
    rw [ints?_map ns]
    rfl
def bls? : List D → Option (List Bool)
  | [] => some []
  | .bool i :: r => (bls? r).map (i :: ·)
  | _ :: _ => none
theorem bls?_eq : ∀ {ds : List D} {ns : List Bool}, bls? ds = some ns → ds = ns.map .bool
  | [], ns, h => by cases h; rfl
  | .bool i :: r, ns, h => by
    obtain ⟨ms, e1, rfl⟩ := Option.map_eq_some_iff.mp h
    rw [bls?_eq e1]
    rfl
  | .none :: _, ns, h => by cases h
  | .int _ :: _, ns, h => by cases h
  | .str _ :: _, ns, h => by cases h
  | .list _ :: _, ns, h => by cases h
  | .tuple _ :: _, ns, h => by cases h
  | .dict _ :: _, ns, h => by cases h
@[simp] theorem bls?_map : ∀ ns : List Bool, bls? (ns.map .bool) = some ns
  | [] => rfl
  | n :: ns => by
    show (bls? (ns.map .bool)).map (n :: ·) = _
    rw [bls?_map ns]
    rfl

/-- sum over a tuple of ints -/
theorem sum_tup {prog : Program} {w : World} {A : Around} {E : Value → Shared → Prop} {s : Shared} {l : Addr} {its : List Value} {ns : List Int} {Q : Value → Shared → Prop} (hh : A.handled = none) (hl : s.heap.IsTuple l its.toArray) (hi : IntsAre its ns)
    (h : ∀ h' tk t', (∀ b o, s.heap.get? b = some o → h'.get? b = some o) → Q (.int ns.sum t') { s with heap := h', toks := tk }) : wpAny (model prog w) A (call (.builtin "sum") [.ref l]) Q E s := by
  obtain ⟨xs, e⟩ := hi.allInts.items
  have hn : numsOf (intItems xs).toList = ns := by rw [← e]; exact hi.numsOf
  rw [nums_intItems] at hn
  rw [e] at hl
  refine call_sum_walkG ?_
  have hlt : l < s.heap.objs.size := by obtain ⟨_, e, _⟩ := hl; exact Heap.lt_size e
  refine wpAny_pyIter_tuple hl ?_
  refine ⟨s.heap.objs.size, _, _, _, _, _, numAt xs, rfl, Walks.tuple (A := A.in1) hh s.heap.objs.size l (Nat.ne_of_lt hlt) (intItems xs), ⟨⟨_, Heap.get?_push_size _ rfl, rfl, rfl⟩, hl.push _⟩, fun b hb => ?_, (fun _ _ => intItems_at), fun h' tk t' hk => ?_⟩
  · have hb' : b = s.heap.objs.size ∨ b = l := by simpa using hb
    show b < (s.heap.push _).objs.size
    rw [Heap.size_push]
    rcases hb' with e | e
    · rw [e]; exact Nat.lt_succ_self _
    · rw [e]; exact Nat.lt_succ_of_lt hlt
  · have hk' : ∀ b o, s.heap.get? b = some o → h'.get? b = some o := fun b o e => hk b o (fun hm => by
      have e2 : b = s.heap.objs.size := by simpa using hm
      rw [e2] at e
      exact absurd (Heap.lt_size e) (Nat.lt_irrefl _)) (Heap.get?_push_of_some _ e)
    have := h h' tk t' hk'
    rw [← hn] at this
    rw [preSum_eq, List.take_of_length_le (by simp [intItems])]
    simpa [intItems] using this
section
variable {X : Cx} {k : Nat}
def lenD : List D → Option Rs
  | [.list ds] => some (ri ds.length)
  | [.tuple ds] => some (ri ds.length)
  | [.str x] => if x.length ≤ sizeLine then some (ri x.length) else none
  | _ => none
theorem cd_len : CallD X (.builtin "len") lenD := by
  intro pins s σ H xs us Q I rv ⟨F, ds, r, ⟨hz0, hF⟩, hd, hg, q⟩
  unfold lenD at hg
  split at hg
  · cases hg
    obtain ⟨v, rfl, h⟩ := hd.one
    obtain ⟨a, vs, rfl, ha, ra⟩ := h.list hF
    exact call_len pins s σ H _ us Q I rv ⟨_, vs.length, rfl, .inl ⟨vs, .inl (.inl ha), rfl⟩, by rw [ra.len]; exact q.ri_⟩
  · cases hg
    obtain ⟨v, rfl, h⟩ := hd.one
    obtain ⟨a, vs, rfl, ha, ra⟩ := h.tuple hF
    exact call_len pins s σ H _ us Q I rv ⟨_, vs.length, rfl, .inr ⟨vs, ha, rfl⟩, by rw [ra.len]; exact q.ri_⟩
  · obtain ⟨hz, rfl⟩ := some_ite hg
    obtain ⟨v, rfl, h⟩ := hd.one
    exact call_len pins s σ H _ us Q I rv ⟨v, _, rfl, (by rw [h.str]; exact ⟨hz, rfl⟩ : LenV X.K v H _), q.ri_⟩
  · cases hg
def listD : List D → Option Rs
  | [.list ds] => some (.own ds)
  | [.tuple ds] => some (.own ds)
  | _ => none
theorem cd_list : CallD X (.type "list") listD := by
  intro pins s σ H xs us Q I rv ⟨F, ds, r, ⟨hz0, hF⟩, hd, hg, q⟩
  unfold listD at hg
  split at hg
  · cases hg
    obtain ⟨v, rfl, h⟩ := hd.one
    obtain ⟨a, vs, rfl, ha, ra⟩ := h.list hF
    exact call_list_of pins s σ H _ us Q I rv ⟨a, vs, rfl, .inl (.inl (.inl ha)), fun l hl => q _ l ra (hz0.l ha) hl⟩
  · cases hg
    obtain ⟨v, rfl, h⟩ := hd.one
    obtain ⟨a, vs, rfl, ha, ra⟩ := h.tuple hF
    exact call_list_of pins s σ H _ us Q I rv ⟨a, vs, rfl, .inr ha, fun l hl => q _ l ra (hz0.t ha) hl⟩
  · cases hg
def tupleD : List D → Option Rs
  | [.list ds] => some (.val (.tuple ds))
  | [.tuple ds] => some (.val (.tuple ds))
  | _ => none
theorem cd_tuple : CallD X (.type "tuple") tupleD := by
  intro pins s σ H xs us Q I rv ⟨F, ds, r, ⟨hz0, hF⟩, hd, hg, q⟩
  unfold tupleD at hg
  split at hg
  · cases hg
    obtain ⟨v, rfl, h⟩ := hd.one
    obtain ⟨a, vs, rfl, ha, ra⟩ := h.list hF
    exact call_tuple_of pins s σ H _ us Q I rv ⟨a, vs, rfl, .inl ⟨.inl (.inl ha), fun l hl => q.2.1 _ _ l rfl ra (hz0.l ha) hl⟩⟩
  · cases hg
    obtain ⟨v, rfl, h⟩ := hd.one
    have h0 := h
    obtain ⟨a, vs, rfl, ha, ra⟩ := h.tuple hF
    refine call_tuple_of pins s σ H _ us Q I rv ⟨a, vs, rfl, .inr ⟨ha, q.1 _ ?_⟩⟩
    rcases h0 with hd | ⟨_, _, _, h, _⟩
    · exact hd
    · cases h
  · cases hg
def sumD : List D → Option Rs
  | [.list ds] => (ints? ds).map fun ns => ri ns.sum
  | [.tuple ds] => (ints? ds).map fun ns => ri ns.sum
  | _ => none
theorem cd_sum (hx : XO X k) : CallD X (.builtin "sum") sumD := by
  intro pins s σ H xs us Q I rv ⟨F, ds, r, ⟨hz0, hF⟩, hd, hg, q⟩
  unfold sumD at hg
  split at hg
  · obtain ⟨ns, e, rfl⟩ := Option.map_eq_some_iff.mp hg
    obtain ⟨v, rfl, h⟩ := hd.one
    obtain ⟨a, vs, rfl, ha, ra⟩ := h.list hF
    exact cr_sum hx.calm pins s σ H _ us Q I rv ⟨a, ns, rfl, .inl (.inl (by rw [← ra.inj_ints (ints?_eq e)]; exact ha)), q.ri_⟩
  · obtain ⟨ns, e, rfl⟩ := Option.map_eq_some_iff.mp hg
    obtain ⟨v, rfl, h⟩ := hd.one
    obtain ⟨a, vs, rfl, ha, ra⟩ := h.tuple hF
    obtain ⟨its, r1, p1, _⟩ := I.tuple ha
    rw [ra.inj_ints (ints?_eq e)] at r1
    rw [Vals.ref1 rv]
    exact sum_tup (I.ok.hd hx.calm) p1 r1.ints fun h' tk t' hk => ⟨.int ns.sum, H, I.kept (t' := tk) hk, ⟨t', rfl⟩, q.ri_⟩
  · cases hg
def maxI : List Int → Option Int
  | [] => none
  | n :: ns => some (ns.foldl max n)
def minI : List Int → Option Int
  | [] => none
  | n :: ns => some (ns.foldl min n)
theorem foldl_max_spec : ∀ (ns : List Int) (n : Int), (ns.foldl max n = n ∨ ns.foldl max n ∈ ns) ∧ n ≤ ns.foldl max n ∧ ∀ x ∈ ns, x ≤ ns.foldl max n
  | [], n => ⟨.inl rfl, Int.le_refl _, fun _ h => nomatch h⟩
  | m :: ns, n => by
    obtain ⟨h1, h2, h3⟩ := foldl_max_spec ns (max n m)
    rw [List.foldl_cons]
    refine ⟨?_, by omega, fun x hx => ?_⟩
    · rcases h1 with h1 | h1
      · rw [h1]
        by_cases h : n ≤ m
        · right; rw [Int.max_eq_right h]; exact List.mem_cons_self
        · left; rw [Int.max_eq_left (by omega)]
      · exact .inr (List.mem_cons_of_mem _ h1)
    · rcases List.mem_cons.mp hx with rfl | hx
      · omega
      · exact h3 x hx
theorem foldl_min_spec : ∀ (ns : List Int) (n : Int), (ns.foldl min n = n ∨ ns.foldl min n ∈ ns) ∧ ns.foldl min n ≤ n ∧ ∀ x ∈ ns, ns.foldl min n ≤ x
  | [], n => ⟨.inl rfl, Int.le_refl _, fun _ h => nomatch h⟩
  | m :: ns, n => by
    obtain ⟨h1, h2, h3⟩ := foldl_min_spec ns (min n m)
    rw [List.foldl_cons]
    refine ⟨?_, by omega, fun x hx => ?_⟩
    · rcases h1 with h1 | h1
      · rw [h1]
        by_cases h : n ≤ m
        · left; rw [Int.min_eq_left h]
        · right; rw [Int.min_eq_right (by omega)]; exact List.mem_cons_self
      · exact .inr (List.mem_cons_of_mem _ h1)
    · rcases List.mem_cons.mp hx with rfl | hx
      · omega
      · exact h3 x hx
theorem maxI_spec {ns : List Int} {m : Int} (h : maxI ns = some m) : m ∈ ns ∧ ∀ x ∈ ns, x ≤ m := by
  cases ns with
  | nil => cases h
  | cons n ns =>
    cases h
    obtain ⟨h1, h2, h3⟩ := foldl_max_spec ns n
    refine ⟨?_, fun x hx => ?_⟩
    · rcases h1 with h1 | h1
      · rw [h1]; exact List.mem_cons_self
      · exact List.mem_cons_of_mem _ h1
    · rcases List.mem_cons.mp hx with rfl | hx
      · exact h2
      · exact h3 x hx
theorem minI_spec {ns : List Int} {m : Int} (h : minI ns = some m) : m ∈ ns ∧ ∀ x ∈ ns, m ≤ x := by
  cases ns with
  | nil => cases h
  | cons n ns =>
    cases h
    obtain ⟨h1, h2, h3⟩ := foldl_min_spec ns n
    refine ⟨?_, fun x hx => ?_⟩
    · rcases h1 with h1 | h1
      · rw [h1]; exact List.mem_cons_self
      · exact List.mem_cons_of_mem _ h1
    · rcases List.mem_cons.mp hx with rfl | hx
      · exact h2
      · exact h3 x hx
theorem maxI_len {ns : List Int} {m : Int} (h : maxI ns = some m) : 0 < ns.length := by
  cases ns with
  | nil => cases h
  | cons n ns => simp
theorem minI_len {ns : List Int} {m : Int} (h : minI ns = some m) : 0 < ns.length := by
  cases ns with
  | nil => cases h
  | cons n ns => simp
def maxD : List D → Option Rs
  | [.list ds] => (ints? ds).bind fun ns => (maxI ns).map ri
  | [.int i, .int j] => some (ri (max i j))
  | _ => none
def minD : List D → Option Rs
  | [.list ds] => (ints? ds).bind fun ns => (minI ns).map ri
  | [.int i, .int j] => some (ri (min i j))
  | _ => none
theorem cd_max (hx : XO X k) : CallD X (.builtin "max") maxD := by
  intro pins s σ H xs us Q I rv ⟨F, ds, r, ⟨hz0, hF⟩, hd, hg, q⟩
  unfold maxD at hg
  split at hg
  · obtain ⟨ns, e, hg⟩ := Option.bind_eq_some_iff.mp hg
    obtain ⟨m, em, rfl⟩ := Option.map_eq_some_iff.mp hg
    obtain ⟨v, rfl, h⟩ := hd.one
    obtain ⟨a, vs, rfl, ha, ra⟩ := h.list hF
    refine cr_max hx.calm pins s σ H _ us Q I rv ⟨a, ns, rfl, .inl (.inl (by rw [← ra.inj_ints (ints?_eq e)]; exact ha)), maxI_len em, fun m' h1 h2 => ?_⟩
    obtain ⟨g1, g2⟩ := maxI_spec em
    have : m' = m := Int.le_antisymm (g2 _ h1) (h2 _ g1)
    subst this
    exact q.ri_
  · cases hg
    obtain ⟨v, u, rfl, h1, h2⟩ := hd.two
    rename_i i j
    refine call_max2 hx.calm pins s σ H _ us Q I rv ⟨i, j, by rw [h1.int, h2.int], ?_⟩
    have e : (if j > i then j else i) = max i j := by split <;> omega
    rw [e]
    exact q.ri_
  · cases hg
theorem cd_min (hx : XO X k) : CallD X (.builtin "min") minD := by
  intro pins s σ H xs us Q I rv ⟨F, ds, r, ⟨hz0, hF⟩, hd, hg, q⟩
  unfold minD at hg
  split at hg
  · obtain ⟨ns, e, hg⟩ := Option.bind_eq_some_iff.mp hg
    obtain ⟨m, em, rfl⟩ := Option.map_eq_some_iff.mp hg
    obtain ⟨v, rfl, h⟩ := hd.one
    obtain ⟨a, vs, rfl, ha, ra⟩ := h.list hF
    refine cr_min hx.calm pins s σ H _ us Q I rv ⟨a, ns, rfl, .inl (.inl (by rw [← ra.inj_ints (ints?_eq e)]; exact ha)), minI_len em, fun m' h1 h2 => ?_⟩
    obtain ⟨g1, g2⟩ := minI_spec em
    have : m' = m := Int.le_antisymm (h2 _ g1) (g2 _ h1)
    subst this
    exact q.ri_
  · cases hg
    obtain ⟨v, u, rfl, h1, h2⟩ := hd.two
    rename_i i j
    refine call_min2 hx.calm pins s σ H _ us Q I rv ⟨i, j, by rw [h1.int, h2.int], ?_⟩
    have e : (if j < i then j else i) = min i j := by split <;> omega
    rw [e]
    exact q.ri_
  · cases hg
def allD : List D → Option Rs
  | [.list ds] => (bls? ds).map fun bs => bl (bs.all id)
  | _ => none
def anyD : List D → Option Rs
  | [.list ds] => (bls? ds).map fun bs => bl (bs.any id)
  | _ => none
theorem cd_all (hx : XO X k) : CallD X (.builtin "all") allD := by
  intro pins s σ H xs us Q I rv ⟨F, ds, r, ⟨hz0, hF⟩, hd, hg, q⟩
  unfold allD at hg
  split at hg
  · obtain ⟨bs, e, rfl⟩ := Option.map_eq_some_iff.mp hg
    obtain ⟨v, rfl, h⟩ := hd.one
    obtain ⟨a, vs, rfl, ha, ra⟩ := h.list hF
    exact cr_all hx.calm pins s σ H _ us Q I rv ⟨a, bs, rfl, .inl (.inl (by rw [← ra.inj_bls (bls?_eq e)]; exact ha)), q.bl_⟩
  · cases hg
theorem cd_any (hx : XO X k) : CallD X (.builtin "any") anyD := by
  intro pins s σ H xs us Q I rv ⟨F, ds, r, ⟨hz0, hF⟩, hd, hg, q⟩
  unfold anyD at hg
  split at hg
  · obtain ⟨bs, e, rfl⟩ := Option.map_eq_some_iff.mp hg
    obtain ⟨v, rfl, h⟩ := hd.one
    obtain ⟨a, vs, rfl, ha, ra⟩ := h.list hF
    exact cr_any hx.calm pins s σ H _ us Q I rv ⟨a, bs, rfl, .inl (.inl (by rw [← ra.inj_bls (bls?_eq e)]; exact ha)), q.bl_⟩
  · cases hg
def intD : List D → Option Rs
  | [.int i] => some (ri i)
  | [.bool b] => some (ri (if b then 1 else 0))
  | _ => none
theorem cd_int : CallD X (.type "int") intD := by
  intro pins s σ H xs us Q I rv ⟨F, ds, r, ⟨hz0, hF⟩, hd, hg, q⟩
  unfold intD at hg
  split at hg
  · cases hg
    obtain ⟨v, rfl, h⟩ := hd.one
    exact call_int1 pins s σ H _ us Q I rv (.inl ⟨_, by rw [h.int], q.ri_⟩)
  · cases hg
    obtain ⟨v, rfl, h⟩ := hd.one
    exact call_int1 pins s σ H _ us Q I rv (.inr ⟨_, by rw [h.bool], q.ri_⟩)
  · cases hg
def absD : List D → Option Rs
  | [.int i] => some (ri (if i < 0 then -i else i))
  | _ => none
theorem cd_abs : CallD X (.builtin "abs") absD := by
  intro pins s σ H xs us Q I rv ⟨F, ds, r, ⟨hz0, hF⟩, hd, hg, q⟩
  unfold absD at hg
  split at hg
  · cases hg
    obtain ⟨v, rfl, h⟩ := hd.one
    exact call_abs pins s σ H _ us Q I rv ⟨_, by rw [h.int], q.ri_⟩
  · cases hg
end
end Dk
set_option Elab.async false
set_option linter.all false
set_option maxRecDepth 100000
set_option maxHeartbeats 2000000
/-! Dk, part 4d: isinstance, repr. -/
namespace Dk
open PySem PySem.Spec PyProof.Rows L2
variable {S : Type} [StK S]

/-! ### isinstance -/
def tyName : D → String
  | .none => "NoneType"
  | .bool _ => "bool"
  | .int _ => "int"
  | .str _ => "str"
  | .list _ => "list"
  | .tuple _ => "tuple"
  | .dict _ => "dict"
inductive Ty where
  | int | bool | str | tuple | list | dict
def Ty.nm : Ty → String
  | .int => "int"
  | .bool => "bool"
  | .str => "str"
  | .tuple => "tuple"
  | .list => "list"
  | .dict => "dict"
def isi : Ty → D → Bool
  | .int, .int _ => true
  | .int, .bool _ => true
  | .bool, .bool _ => true
  | .str, .str _ => true
  | .tuple, .tuple _ => true
  | .list, .list _ => true
  | .dict, .dict _ => true
  | _, _ => false
theorem kit_isi (T : Ty) (d : D) : kitB (tyName d) T.nm = some (isi T d) := by
  have h1 : ∀ n : String, tyName d = n → kitB n T.nm = some (isi T d) → kitB (tyName d) T.nm = some (isi T d) := fun n e h => by rw [e]; exact h
  cases d with
  | none => exact h1 "NoneType" rfl (by cases T <;> (show _ = some false; decide +kernel))
  | bool b => exact h1 "bool" rfl (by cases T <;> first | (show _ = some false; decide +kernel) | (show _ = some true; decide +kernel))
  | int b => exact h1 "int" rfl (by cases T <;> first | (show _ = some false; decide +kernel) | (show _ = some true; decide +kernel))
  | str b => exact h1 "str" rfl (by cases T <;> first | (show _ = some false; decide +kernel) | (show _ = some true; decide +kernel))
  | list b => exact h1 "list" rfl (by cases T <;> first | (show _ = some false; decide +kernel) | (show _ = some true; decide +kernel))
  | tuple b => exact h1 "tuple" rfl (by cases T <;> first | (show _ = some false; decide +kernel) | (show _ = some true; decide +kernel))
  | dict b => exact h1 "dict" rfl (by cases T <;> first | (show _ = some false; decide +kernel) | (show _ = some true; decide +kernel))
theorem RdD.ty {K : Fg} {F H : Hp} {d : D} {v : V} (h : RdD K H F d v) (e : Le F H) : TyX K H v (.type (tyName d)) := by
  cases d with
  | none => rw [h.none_]; exact .base .non
  | bool b => rw [h.bool]; exact .base (.bl b)
  | int i => rw [h.int]; exact .base (.int i)
  | str x => rw [h.str]; exact .base (.str x)
  | list ds => obtain ⟨a, vs, rfl, h1, _⟩ := h.list e; exact .base (.lst h1)
  | tuple ds =>
    obtain ⟨a, vs, rfl, h1, _⟩ := h.tuple e
    rcases h1 with (h1 | ⟨o, h1⟩) | ⟨o, its, n, h1, h2, _⟩
    · exact .base (.tup h1)
    · exact .fTuple h1
    · exact .kTuple h1 h2
  | dict ds => obtain ⟨a, rfl, _, h1⟩ := h.dict e; exact .base (.dK h1)
section
variable {X : Cx} {k : Nat} {e a : Expr} {pos p p2 p3 p4 : Pos} {t : (OW S)}
theorem b_ty (T : Ty) : bootBuiltins T.nm = some (.type T.nm) := by cases T <;> decide +kernel
theorem b_ty1 {T : Ty} {x : Str} (h : Str.ofString T.nm = x) : bootBuiltins x = some (.type T.nm) := by rw [← h]; exact b_ty T
def dIsi (T : Ty) (t : (OW S)) : (DW S) := dUn (fun d => some (bl (isi T d))) t
theorem ce_isi (T : Ty) {x : Str} (ha : CO (S := S) X a t) (hm : X.mg "isinstance" = none) (hT : X.mg x = none) (hx : Str.ofString T.nm = x := by rfl) (hg : Gl X "isinstance" := by rfl) (hg2 : Gl X x := by rfl) (hn : x ≠ "__name__" := by decide) (hd : (x == ("__debug__" : Str)) = false := by decide)
    (hs : starEach [a, .Name x p2] X.env = (false, eval a X.env) :: starEach [.Name x p2] X.env := by rfl) :
    CE (S := S) X (.Call (.Name "isinstance" p) [a, .Name x p2] [] pos) (dIsi T t) := by
  have h2 : PE X (.Name x p2) (tC (.ty T.nm)) := pe_bltn hg2 hT (b_ty1 hx) rfl hn hd
  refine pe_mono (pe_callB call_isi hg hm b_isinstance (pa_cons ha (pa_cons h2 pa_nil) hs) (he := hs)) fun σ H Q h => ?_
  obtain ⟨B, pa, τ, F, ρ, θ, P, R, hl, h, q⟩ := un_step h
  refine ⟨B, pa, τ, F, ρ, θ, P, R, hl, h, fun k1 ρ1 v1 H1 F1 h1 hl1 R1 s1 => ?_⟩
  obtain ⟨F2, d, r, ⟨hz0, hF⟩, hd', hr, q'⟩ := q k1 ρ1 v1 H1 F1 h1 hl1 R1 s1
  cases hr
  exact ⟨v1, .ty T.nm, _, _, _, rfl, .ty _, hd'.ty hF, kit_ty (kit_isi T d), q'.bl_⟩
def dIsi2 (T U : Ty) (t : (OW S)) : (DW S) := dUn (fun d => some (bl (isi T d || isi U d))) t
theorem ce_isi2 (T U : Ty) {x y : Str} {x1} (ha : CO (S := S) X a t) (hm : X.mg "isinstance" = none) (hT : X.mg x = none) (hU : X.mg y = none) (hx : Str.ofString T.nm = x := by rfl) (hy : Str.ofString U.nm = y := by rfl) (hg : Gl X "isinstance" := by rfl) (hg2 : Gl X x := by rfl) (hg3 : Gl X y := by rfl)
    (hn : x ≠ "__name__" := by decide) (hd : (x == ("__debug__" : Str)) = false := by decide) (hn2 : y ≠ "__name__" := by decide) (hd2 : (y == ("__debug__" : Str)) = false := by decide)
    (hs : starEach [a, .Tuple [.Name x p2, .Name y p3] x1 p4] X.env = (false, eval a X.env) :: starEach [.Tuple [.Name x p2, .Name y p3] x1 p4] X.env := by rfl) :
    CE (S := S) X (.Call (.Name "isinstance" p) [a, .Tuple [.Name x p2, .Name y p3] x1 p4] [] pos) (dIsi2 T U t) := by
  have h2 : PE X (.Name x p2) (tC (.ty T.nm)) := pe_bltn hg2 hT (b_ty1 hx) rfl hn hd
  have h3 : PE X (.Name y p3) (tC (.ty U.nm)) := pe_bltn hg3 hU (b_ty1 hy) rfl hn2 hd2
  refine pe_mono (pe_callB call_isiT hg hm b_isinstance (pa_cons ha (pa_cons (pe_tup (pa_cons h2 (pa_cons h3 pa_nil))) pa_nil) hs) (he := hs)) fun σ H Q h => ?_
  obtain ⟨B, pa, τ, F, ρ, θ, P, R, hl, h, q⟩ := toE h
  refine ⟨B, pa, τ, F, ρ, θ, _, R, hl, h, fun k1 ρ1 v1 H1 F1 h1 hl1 R1 s1 => ?_⟩
  refine ⟨by show 2 ≤ sizeLine; decide, fun tp hp => ?_⟩
  obtain ⟨d, e1, h1⟩ := gets_elim h1
  have hτ : τ.length = θ.length := by have := R1.pop.len; simp at this; omega
  have R1b : Rel X.K B pa (σ ++ τ ++ [some v1]) (upd H1 tp (.tup [.ty T.nm, .ty U.nm])) F1 (ρ1.sl ++ θ ++ [k1.sl]) ρ1.pn := R1.grow (le_upd hp) (Le.refl _) (R1.fh.trans (le_upd hp)) (fun b u e => .inl e) (R1.sz.upT (by show 2 ≤ sizeLine; decide))
  have R2 : Rel X.K B pa (σ ++ (τ ++ [some v1])) (upd H1 tp (.tup [.ty T.nm, .ty U.nm])) F1 (ρ1.sl ++ (θ ++ [k1.sl])) ρ1.pn := by simpa only [List.append_assoc] using R1b
  have rd := read_at R2 hl1 τ.length (app_last _ _) (getN hτ.symm) s1 e1
  refine ⟨v1, tp, [.ty T.nm, .ty U.nm], _, [.type T.nm, .type U.nm], isi T d || isi U d, rfl, upd_same, .cons (.ty _) (.cons (.ty _) .nil), rd.ty R1b.fh, ?_, ?_⟩
  · refine kitAny_cons (kit_ty (kit_isi T d)) (fun e => ?_) (fun e => by rw [e]; rfl)
    refine kitAny_cons (kit_ty (kit_isi U d)) (fun e2 => ?_) (fun e2 => by rw [e2]; simp)
    rw [e, e2]; exact kitAny_nil
  · exact q _ _ _ _ F1 h1 hl1 (R1b.pop.pushVal (DR.bl_.mpr rfl))
end
/-! ### repr -/
mutual
def noList : D → Bool
  | .list _ => false
  | .tuple ds => noLists ds
  | _ => true
def noLists : List D → Bool
  | [] => true
  | d :: ds => noList d && noLists ds
end
section
variable {X : Cx} {k : Nat} {pins : List (Addr × Obj)} {σ : L2.St} {H F : Hp} {s : Shared}
mutual
theorem DR.reads (I : L2.Inv X pins σ H s) (e : Le F H) : ∀ (d : D) (v : V) (u : Value), DR X.K F d v → RelV v u → ∃ as, Reads s.heap u d as ∧ (noList d = true → sysModules ∉ as)
  | .none, v, u, h, r => by
    rw [DR.non_.mp h] at r; cases r
    exact ⟨_, Reads.none, fun _ => by simp⟩
  | .bool b, v, u, h, r => by
    rw [DR.bl_.mp h] at r; cases r
    exact ⟨_, Reads.bool b, fun _ => by simp⟩
  | .int i, v, u, h, r => by
    rw [DR.int_.mp h] at r; obtain ⟨t, rfl⟩ := r
    exact ⟨_, Reads.int i t, fun _ => by simp⟩
  | .str x, v, u, h, r => by
    rw [DR.str_.mp h] at r; obtain ⟨t, rfl⟩ := r
    exact ⟨_, Reads.str x t, fun _ => by simp⟩
  | .list ds, v, u, h, r => by
    obtain ⟨a, vs, rfl, h1, h2⟩ := DR.list_.mp h
    cases r
    obtain ⟨its, rv, ⟨o, n, ho, hc, _, hd⟩, _⟩ := I.list (.inl (.inl (e _ _ h1)))
    obtain ⟨as, hr, _⟩ := DRs.reads I e ds vs its h2 rv
    exact ⟨_, Reads.list ho hc hd hr, fun z => by simp [noList] at z⟩
  | .tuple ds, v, u, h, r => by
    obtain ⟨a, vs, rfl, h1, h2⟩ := DR.tuple_.mp h
    cases r
    obtain ⟨its, rv, ⟨o, ho, hc, n, hd⟩, _⟩ := I.tuple (e.t h1)
    obtain ⟨as, hr, hs⟩ := DRs.reads I e ds vs its h2 rv
    exact ⟨_, Reads.tuple ho hc hd hr, fun z => hs (by simpa [noList] using z)⟩
  | .dict kvs, v, u, h, r => by
    obtain ⟨a, rfl, rfl, h1⟩ := DR.dict_.mp h
    cases r
    obtain ⟨_, hne, vs, kv, o, es, ep, ho, hx, hd, _, hp, _⟩ := I.hok a _ (e _ _ h1)
    cases kv
    have : es.toList = [] := by
      have := hp.length
      simpa using this
    exact ⟨[a], Reads.dict (as := []) (bs := []) ho hx.1 hd (by rw [this]; exact .nil) (by rw [this]; exact .nil), fun _ hm => by
      have e2 : sysModules = a := by simpa using hm
      rw [← e2] at hne
      exact absurd hne (by decide)⟩
theorem DRs.reads (I : L2.Inv X pins σ H s) (e : Le F H) : ∀ (ds : List D) (vs : List V) (us : List Value), DRs X.K F ds vs → Vals vs us → ∃ as, ReadsAll s.heap us ds as ∧ (noLists ds = true → sysModules ∉ as)
  | [], vs, us, h, r => by
    rw [DRs.nil_.mp h] at r
    cases r
    exact ⟨_, ReadsAll.nil, fun _ => by simp⟩
  | d :: ds, vs, us, h, r => by
    obtain ⟨v, vr, rfl, h2, h3⟩ := DRs.cons_.mp h
    cases r with
    | cons r1 r2 =>
      obtain ⟨as, q1, z1⟩ := DR.reads I e d _ _ h2 r1
      obtain ⟨bs, q2, z2⟩ := DRs.reads I e ds _ _ h3 r2
      refine ⟨_, ReadsAll.cons q1 q2, fun z => ?_⟩
      simp only [noLists, Bool.and_eq_true] at z
      intro hm
      rcases List.mem_append.mp hm with hm | hm
      · exact z1 z.1 hm
      · exact z2 z.2 hm
end
theorem RdD.reads {d : D} {v : V} {u : Value} (I : L2.Inv X pins σ H s) (e : Le F H) (h : RdD X.K H F d v) (r : RelV v u) : ∃ as, Reads s.heap u d as ∧ (noList d = true → sysModules ∉ as) := by
  rcases h with h | ⟨ds, a, vs, rfl, rfl, h1, h2⟩
  · exact h.reads I e d v u r
  · cases r
    obtain ⟨its, rv, ⟨o, n, ho, hc, _, hd⟩, _⟩ := I.list (.inl (.inl h1))
    obtain ⟨as, hr, _⟩ := h2.reads I e ds vs its rv
    exact ⟨_, Reads.list ho hc hd hr, fun z => by simp [noList] at z⟩
/-- what may be shown -/
def reprOk (d : D) : Prop := d.showable = true ∧ d.shown.length ≤ sizeLine ∧ d.depth ≤ 100 ∧ (noList d = true ∨ d.hasDict = false)
instance {d : D} : Decidable (reprOk d) := by unfold reprOk; infer_instance
def reprD : List D → Option Rs
  | [d] => if reprOk d then some (.val (.str d.shown)) else none
  | _ => none
theorem cd_repr (hx : XO X k) : CallD X (.builtin "repr") reprD := by
  intro pins s σ H xs us Q I rv ⟨F, ds, r, ⟨hz0, hF⟩, hd, hg, q⟩
  unfold reprD at hg
  split at hg
  · obtain ⟨⟨c1, c2, c3, c4⟩, rfl⟩ := some_ite hg
    obtain ⟨v, rfl, h⟩ := hd.one
    obtain ⟨u, rfl, ru⟩ := vals1 rv
    rename_i d
    obtain ⟨as, hr, hs⟩ := h.reads I hF ru
    have hsm : d.hasDict = true → sysModules ∉ as := fun z => by
      rcases c4 with c4 | c4
      · exact hs c4
      · rw [c4] at z; cases z
    have hu : X.A.units + (d.depth + 1) < cLine := by have := hx.room.un; omega
    have fin : ∀ (h' : Heap) (u : Tok) (tk : Nat), (∀ b o, s.heap.get? b = some o → h'.get? b = some o) → EP X pins σ Q (.str d.shown u) { s with heap := h', toks := tk } := fun h' u tk hk => ⟨.str d.shown, H, I.kept (t' := tk) hk, ⟨u, rfl⟩, q.str_⟩
    cases hr with
    | none => exact P.repr_of_none (by have := fin s.heap s.toks (s.toks + 1) (fun _ _ e => e); simpa [PyData.shown] using this)
    | bool b => exact P.repr_of_bool (by have := fin s.heap s.toks (s.toks + 1) (fun _ _ e => e); cases b <;> simpa [PyData.shown] using this)
    | int i t => exact P.repr_of_int (by simpa [PyData.showable] using c1) (by have := fin s.heap s.toks (s.toks + 1) (fun _ _ e => e); simpa [PyData.shown] using this)
    | str x t => exact P.repr_of_str (by have := fin s.heap s.toks (s.toks + 1) (fun _ _ e => e); simpa [PyData.shown] using this) (by simpa [PyData.shown] using c2)
    | list h1 h2 h3 h4 => exact repr_of_reads' (.list h1 h2 h3 h4) c1 hsm hx.gd hu (fun _ _ e => e) (fun h' u tk hk => fin h' u tk hk) c2
    | tuple h1 h2 h3 h4 => exact repr_of_reads' (.tuple h1 h2 h3 h4) c1 hsm hx.gd hu (fun _ _ e => e) (fun h' u tk hk => fin h' u tk hk) c2
    | dict h1 h2 h3 h4 h5 => exact repr_of_reads' (.dict h1 h2 h3 h4 h5) c1 hsm hx.gd hu (fun _ _ e => e) (fun h' u tk hk => fin h' u tk hk) c2
  · cases hg
end
end Dk
set_option Elab.async false
set_option linter.all false
set_option maxRecDepth 100000
set_option maxHeartbeats 2000000
/-! Dk, part 5: what is walked, targets, comprehensions. -/
namespace Dk
open PySem PySem.Spec PyProof.Rows L2
variable {S : Type} [StK S]

/-- an item comes: as it stands, or a new tuple -/
def Yl (K : Fg) (F H : Hp) (d : D) (x : V) (H' : Hp) : Prop := (H' = H ∧ DR K F d x) ∨ ∃ p ds vs, d = .tuple ds ∧ x = .ref p ∧ H p = none ∧ H' = upd H p (.tup vs) ∧ DRs K F ds vs ∧ vs.length ≤ sizeLine
structure SrcOk (K : Fg) (J : It) (f : List D → Option (List D)) (vs : List V) : Prop where
  step : ∀ (H F : Hp) (ds items : List D) (i : Nat) (d : D), Szs H → Le F H → RdDs K H F ds vs → f ds = some items → items[i]? = some d → J.go i H ∧ ∀ x H', J.yld i H x H' → Yl K F H d x H'
  stop : ∀ (H F : Hp) (ds items : List D), Szs H → Le F H → RdDs K H F ds vs → f ds = some items → J.stop items.length H ∧ items.length ≤ sizeLine
/-- what is walked: the sources, and the items by their data -/
structure Sc where
  ks : List Tk
  f : List D → Option (List D)
def Sc.items (c : Sc) (ρ : En S) : Option (List D) := (rds ρ c.ks).bind c.f
abbrev IW (S : Type := Option Pen) := (En S) → (Sc → (En S) → Prop) → Prop
def liftI (K : Fg) (t : (IW S)) : TI := fun σ H R => ∃ B pa τ F ρ θ P, Rel K B pa (σ ++ τ) H F (ρ.sl ++ θ) ρ.pn ∧ ρ.sl.length = σ.length ∧ t ρ P ∧
  ∀ c ρ' vs H' F' J, P c ρ' → ρ'.sl.length = σ.length → c.ks.length = vs.length → Rel K B pa (σ ++ τ ++ vs.map some) H' F' (ρ'.sl ++ θ ++ c.ks.map Tk.sl) ρ'.pn →
    (∀ (j : Nat) i v, c.ks[j]? = some (.slot i) → vs[j]? = some v → σ[i]? = some (some v)) → SrcOk K J c.f vs → R J H'
abbrev CI (X : Cx) (tg e : Expr) (t : (IW S)) : Prop := PI X tg e (liftI X.K t)
theorem pi_mono {X : Cx} {tg e : Expr} {t u : TI} (h : PI X tg e t) (m : ∀ σ H Q, u σ H Q → t σ H Q) : PI X tg e u := ⟨fun pins s σ H Q I q => h.run pins s σ H Q I (m σ H Q q)⟩
section
variable {X : Cx} {tg e a b : Expr} {es : List Expr} {pos p : Pos} {t u : (OW S)}
/-- a list or a tuple -/
def iSeq2 (K : Fg) (tl : TE) : TI := fun σ H R => tl σ H fun x H1 => ∃ a, x = .ref a ∧ ((∃ xs, SqL K H1 a xs ∧ R (Itl K a) H1) ∨ ∃ xs, SqT K H1 a xs ∧ R (Itt K a) H1)
theorem pi_seq2 {l : Expr} {tl : TE} (hl : PE X l tl) : PI X tg l (iSeq2 X.K tl) := by
  refine ⟨fun pins s σ H R I h => ?_⟩
  refine thn (hl.run pins s σ H _ I h) fun v s1 ⟨x, H1, I1, r1, q1⟩ => ?_
  obtain ⟨a, e, ⟨xs, hq, q⟩ | ⟨xs, hq, q⟩⟩ := q1
  · subst e
    cases r1
    obtain ⟨its, rv, p, hz⟩ := I1.list hq
    refine wpAny_pyIter_list p.isList ?_
    refine ⟨s1.heap.objs.size, [s1.heap.objs.size], _, _, H1, rfl, I1.kept (t' := s1.toks) fun b o e => Heap.get?_push_of_some _ e, turn_list a _, ⟨_, Heap.get?_push_size _ rfl, rfl, rfl⟩, fun b hb => ?_, q⟩
    have e : b = s1.heap.objs.size := by simpa using hb
    subst e
    exact I1.fpOk (Nat.le_refl _) (I1.hok.fresh (Nat.le_refl _))
  · subst e
    cases r1
    obtain ⟨its, rv, p, hz⟩ := I1.tuple hq
    refine wpAny_pyIter_tuple (show s1.heap.IsTuple a its.toArray from p) ?_
    refine ⟨s1.heap.objs.size, [s1.heap.objs.size], _, _, H1, rfl, I1.kept (t' := s1.toks) fun b o e => Heap.get?_push_of_some _ e, turn_tuple a _, ⟨_, Heap.get?_push_size _ rfl, rfl, rfl⟩, fun b hb => ?_, q⟩
    have e : b = s1.heap.objs.size := by simpa using hb
    subst e
    exact I1.fpOk (Nat.le_refl _) (I1.hok.fresh (Nat.le_refl _))
def seqF : List D → Option (List D)
  | [.list ds] => some ds
  | [.tuple ds] => some ds
  | _ => none
@[simp] theorem seqF_list {ds : List D} : seqF [.list ds] = some ds := rfl
@[simp] theorem seqF_tuple {ds : List D} : seqF [.tuple ds] = some ds := rfl
theorem src_list {K : Fg} {a : Addr} : SrcOk K (Itl K a) (fun ds => match ds with | [.list es] => some es | _ => none) [.ref a] := by
  refine ⟨fun H F ds items i d hz hF h e hi => ?_, fun H F ds items hz hF h e => ?_⟩
  · split at e
    · cases e
      obtain ⟨v, hv, h⟩ := h.one
      cases hv
      obtain ⟨a', vs, hv, ha, ra⟩ := h.list hF
      cases hv
      obtain ⟨v, h1, h2⟩ := ra.get hi
      refine ⟨⟨vs, v, .inl (.inl ha), h1⟩, fun x H' ⟨e1, e2⟩ => .inl ⟨e1, ?_⟩⟩
      have := e2 vs (.inl (.inl ha))
      rw [h1] at this
      cases this
      exact h2
    · cases e
  · split at e
    · cases e
      obtain ⟨v, hv, h⟩ := h.one
      cases hv
      obtain ⟨a', vs, hv, ha, ra⟩ := h.list hF
      cases hv
      exact ⟨⟨vs, .inl (.inl ha), by rw [ra.len]; exact Nat.le_refl _⟩, by rw [← ra.len]; exact hz.l ha⟩
    · cases e
end
/-- the tuple at a is one and the same at all times: its items by the state -/
theorem sqt_one {K : Fg} {H : Hp} {a : Addr} {xs ys : List V} (hk : ∀ o, K.lookup a = some o → H a = none) (h : SqT K H a xs) (h' : SqT K H a ys) : xs = ys := by
  rcases h with (h | ⟨o, h⟩) | ⟨o, its, n, h, _, e, _, r⟩ <;> rcases h' with (h' | ⟨o', h'⟩) | ⟨o', its', n', h', _, e', _, r'⟩
  · rw [h] at h'; cases h'; rfl
  · rw [h] at h'; cases h'
  · have := hk _ h'; rw [h] at this; cases this
  · rw [h] at h'; cases h'
  · rw [h] at h'; cases h'; rfl
  · have := hk _ h'; rw [h] at this; cases this
  · have := hk _ h; rw [h'] at this; cases this
  · have := hk _ h; rw [h'] at this; cases this
  · rw [h] at h'
    cases h'
    rw [e] at e'
    cases e'
    exact r.inj r'
end Dk
set_option Elab.async false
set_option linter.all false
set_option maxRecDepth 100000
set_option maxHeartbeats 2000000
/-! Dk, part 5b: sequences, ranges as sources; targets; comprehensions. -/
namespace Dk
open PySem PySem.Spec PyProof.Rows L2
variable {S : Type} [StK S]
def listF : List D → Option (List D)
  | [.list ds] => some ds
  | _ => none
def tupF : List D → Option (List D)
  | [.tuple ds] => some ds
  | _ => none
@[simp] theorem listF_list {ds : List D} : listF [.list ds] = some ds := rfl
@[simp] theorem tupF_tuple {ds : List D} : tupF [.tuple ds] = some ds := rfl
theorem listF_some {ds es : List D} (h : listF ds = some es) : ds = [.list es] := by
  unfold listF at h
  split at h
  · cases h; rfl
  · cases h
theorem tupF_some {ds es : List D} (h : tupF ds = some es) : ds = [.tuple es] := by
  unfold tupF at h
  split at h
  · cases h; rfl
  · cases h
theorem src_l {K : Fg} {a : Addr} : SrcOk K (Itl K a) listF [.ref a] := by
  refine ⟨fun H F ds items i d hz hF h e hi => ?_, fun H F ds items hz hF h e => ?_⟩
  · have e := listF_some e
    subst e
    obtain ⟨v, hv, h⟩ := h.one
    cases hv
    obtain ⟨a', vs, hv, ha, ra⟩ := h.list hF
    cases hv
    obtain ⟨v, h1, h2⟩ := ra.get hi
    refine ⟨⟨vs, v, .inl (.inl ha), h1⟩, fun x H' ⟨e1, e2⟩ => .inl ⟨e1, ?_⟩⟩
    have := e2 vs (.inl (.inl ha))
    rw [h1] at this
    cases this
    exact h2
  · have e := listF_some e
    subst e
    obtain ⟨v, hv, h⟩ := h.one
    cases hv
    obtain ⟨a', vs, hv, ha, ra⟩ := h.list hF
    cases hv
    exact ⟨⟨vs, .inl (.inl ha), by rw [ra.len]; exact Nat.le_refl _⟩, by rw [← ra.len]; exact hz.l ha⟩
theorem src_t {K : Fg} {a : Addr} : SrcOk K (Itt K a) tupF [.ref a] := by
  refine ⟨fun H F ds items i d hz hF h e hi => ?_, fun H F ds items hz hF h e => ?_⟩
  · have e := tupF_some e
    subst e
    obtain ⟨v, hv, h⟩ := h.one
    cases hv
    obtain ⟨a', vs, hv, ha, ra⟩ := h.tuple hF
    cases hv
    obtain ⟨v, h1, h2⟩ := ra.get hi
    refine ⟨⟨vs, v, ha, h1⟩, fun x H' ⟨e1, e2⟩ => .inl ⟨e1, ?_⟩⟩
    have := e2 vs ha
    rw [h1] at this
    cases this
    exact h2
  · have e := tupF_some e
    subst e
    obtain ⟨v, hv, h⟩ := h.one
    cases hv
    obtain ⟨a', vs, hv, ha, ra⟩ := h.tuple hF
    cases hv
    exact ⟨⟨vs, ha, by rw [ra.len]; exact Nat.le_refl _⟩, by rw [← ra.len]; exact hz.t ha⟩
section
variable {X : Cx} {tg e a b : Expr} {es : List Expr} {pos p : Pos} {t u : (OW S)} {k : Nat}
def iSeq (t : (OW S)) : (IW S) := fun ρ P => t ρ fun k ρ1 => gets (k.rd ρ1) fun d => match d with
  | .list _ => P ⟨[k], listF⟩ ρ1
  | .tuple _ => P ⟨[k], tupF⟩ ρ1
  | _ => False
theorem ci_seq (h : CO (S := S) X e t) : CI (S := S) X tg e (iSeq t) := pi_mono (pi_seq2 h) fun σ H R ⟨B, pa, τ, F, ρ, θ, P, Rl, hl, h, q⟩ => by
  refine ⟨B, pa, τ, F, ρ, θ, _, Rl, hl, h, fun k ρ1 v H1 F1 h1 hl1 R1 s1 => ?_⟩
  obtain ⟨d, e1, h1⟩ := gets_elim h1
  have hτ : τ.length = θ.length := by have := R1.pop.len; simp at this; omega
  have R2 : Rel X.K B pa (σ ++ (τ ++ [some v])) H1 F1 (ρ1.sl ++ (θ ++ [k.sl])) ρ1.pn := by simpa only [List.append_assoc] using R1
  have rd := read_at R2 hl1 τ.length (app_last _ _) (getN hτ.symm) s1 e1
  have sl : ∀ (j : Nat) i v', [k][j]? = some (.slot i) → [v][j]? = some v' → σ[i]? = some (some v') := fun j i v' e2 e3 => by
    cases j with
    | zero => simp at e2 e3; subst e3; exact s1 i e2
    | succ j => simp at e2
  cases d with
  | list ds =>
    obtain ⟨a, vs, rfl, ha, _⟩ := rd.list R1.fh
    exact ⟨a, rfl, .inl ⟨vs, .inl (.inl ha), q _ ρ1 [.ref a] H1 F1 _ h1 hl1 rfl (by simpa using R1) sl src_l⟩⟩
  | tuple ds =>
    obtain ⟨a, vs, rfl, ha, _⟩ := rd.tuple R1.fh
    exact ⟨a, rfl, .inr ⟨vs, ha, q _ ρ1 [.ref a] H1 F1 _ h1 hl1 rfl (by simpa using R1) sl src_t⟩⟩
  | _ => exact h1.elim
def rangeD (lo : Int) (n : Nat) : List D := (List.range n).map fun i => .int (lo + (i : Nat))
theorem rangeD_get {lo : Int} {n i : Nat} {d : D} (h : (rangeD lo n)[i]? = some d) : i < n ∧ d = .int (lo + i) := by
  unfold rangeD at h
  rw [List.getElem?_map] at h
  obtain ⟨j, h1, h2⟩ := Option.map_eq_some_iff.mp h
  obtain ⟨h3, h4⟩ := List.getElem?_eq_some_iff.mp h1
  simp at h3 h4
  subst h4
  exact ⟨h3, h2.symm⟩
@[simp] theorem rangeD_len {lo : Int} {n : Nat} : (rangeD lo n).length = n := by simp [rangeD]
theorem src_r {K : Fg} {lo : Int} {n : Nat} (hn : n ≤ sizeLine) : SrcOk K (Itr lo n) (fun _ => some (rangeD lo n)) [] := by
  refine ⟨fun H F ds items i d hz hF h e hi => ?_, fun H F ds items hz hF h e => ?_⟩
  · cases e
    obtain ⟨h1, h2⟩ := rangeD_get hi
    exact ⟨h1, fun x H' ⟨e1, e2⟩ => .inl ⟨e1, by rw [h2, e2]; exact DR.int_.mpr rfl⟩⟩
  · cases e
    rw [rangeD_len]
    exact ⟨Nat.le_refl _, hn⟩
/-- range(j), range(i, j) -/
def iRange1 (t : (OW S)) : (IW S) := fun ρ P => t ρ fun k ρ1 => gets ((k.rd ρ1).bind D.int?) fun j => (-(2 ^ 62) ≤ j ∧ j ≤ 16777216) ∧ P ⟨[], fun _ => some (rangeD 0 j.toNat)⟩ ρ1
def iRange2 (t u : (OW S)) : (IW S) := fun ρ P => t ρ fun k ρ1 => u ρ1 fun k2 ρ2 => gets ((k.rd ρ2).bind D.int?) fun i => gets ((k2.rd ρ2).bind D.int?) fun j => (-(2 ^ 62) ≤ i ∧ i < 2 ^ 62 ∧ -(2 ^ 62) ≤ j ∧ j < 2 ^ 62 ∧ j - i ≤ 16777216) ∧ P ⟨[], fun _ => some (rangeD i (j - i).toNat)⟩ ρ2
theorem ci_range1 (hm : X.mg "range" = none) (h : CO (S := S) X a t) (hg : Gl X "range" := by rfl) (hs : starEach [a] X.env = (false, eval a X.env) :: starEach [] X.env := by rfl) : CI (S := S) X tg (.Call (.Name "range" p) [a] [] pos) (iRange1 t) :=
  pi_mono (pi_range1 hg hm (pa_cons h pa_nil hs) hs) fun σ H R ⟨B, pa, τ, F, ρ, θ, P, Rl, hl, h, q⟩ => by
    refine ⟨B, pa, τ, F, ρ, θ, _, Rl, hl, h, fun k ρ1 v H1 F1 h1 hl1 R1 s1 => ?_⟩
    obtain ⟨j, e, ⟨b1, b2⟩, h1⟩ := gets_elim h1
    obtain ⟨d, e1, e2⟩ := Option.bind_eq_some_iff.mp e
    have e3 := D.int?_some e2
    subst e3
    have hτ : τ.length = θ.length := by have := R1.pop.len; simp at this; omega
    have R2 : Rel X.K B pa (σ ++ (τ ++ [some v])) H1 F1 (ρ1.sl ++ (θ ++ [k.sl])) ρ1.pn := by simpa only [List.append_assoc] using R1
    have rd := read_at R2 hl1 τ.length (app_last _ _) (getN hτ.symm) s1 e1
    have hsz : sizeLine = 16777216 := sizeLine_eq
    exact ⟨j, by rw [rd.int], b1, by omega, q _ ρ1 [] H1 F1 _ h1 hl1 rfl (by simpa using R1.pop) (fun j i v e => by simp at e) (src_r (by omega))⟩
theorem ci_range2 (hm : X.mg "range" = none) (ha : CO (S := S) X a t) (hb : CO (S := S) X b u) (hg : Gl X "range" := by rfl) (hs : starEach [a, b] X.env = (false, eval a X.env) :: starEach [b] X.env := by rfl) (hs2 : starEach [b] X.env = (false, eval b X.env) :: starEach [] X.env := by rfl)
    (hs3 : starEach [a, b] X.env = [(false, eval a X.env), (false, eval b X.env)] := by rfl) : CI (S := S) X tg (.Call (.Name "range" p) [a, b] [] pos) (iRange2 t u) :=
  pi_mono (pi_range2 hg hm (pa_cons ha (pa_cons hb pa_nil hs2) hs) hs3 hs2) fun σ H R ⟨B, pa, τ, F, ρ, θ, P, Rl, hl, h, q⟩ => by
    refine ⟨B, pa, τ, F, ρ, θ, _, Rl, hl, h, fun k ρ1 v H1 F1 h1 hl1 R1 s1 => ?_⟩
    refine ⟨B, pa, τ ++ [some v], F1, ρ1, θ ++ [k.sl], _, by simpa only [List.append_assoc] using R1, hl1, h1, fun k2 ρ2 v2 H2 F2 h2 hl2 R2 s2 => ?_⟩
    obtain ⟨i, e, h2⟩ := gets_elim h2
    obtain ⟨j, f, ⟨b1, b2, b3, b4, b5⟩, h2⟩ := gets_elim h2
    obtain ⟨d, e1, e2⟩ := Option.bind_eq_some_iff.mp e
    obtain ⟨d', f1, f2⟩ := Option.bind_eq_some_iff.mp f
    have e3 := D.int?_some e2
    have f3 := D.int?_some f2
    subst e3 f3
    have R3 : Rel X.K B pa (σ ++ τ ++ [some v] ++ [some v2]) H2 F2 (ρ2.sl ++ θ ++ [k.sl] ++ [k2.sl]) ρ2.pn := by simpa only [List.append_assoc] using R2
    have hτ : τ.length = θ.length := by have := R3.pop.pop.len; simp at this; omega
    have R4 : Rel X.K B pa (σ ++ (τ ++ [some v] ++ [some v2])) H2 F2 (ρ2.sl ++ (θ ++ [k.sl] ++ [k2.sl])) ρ2.pn := by simpa only [List.append_assoc] using R2
    have rd := read_at R4 hl2 τ.length (app_get (app_last _ _)) (app_get (getN hτ.symm)) s1 e1
    have rd2 := read_at R4 hl2 (τ ++ [some v]).length (app_last _ _) (getN (by simp [hτ])) s2 f1
    have hsz : sizeLine = 16777216 := sizeLine_eq
    exact ⟨i, j, by rw [rd.int, rd2.int], ⟨b1, b2, b3, b4⟩, q _ ρ2 [] H2 F2 _ h2 hl2 rfl (by simpa using R3.pop.pop) (fun j i v e => by simp at e) (src_r (by omega))⟩
end
/-! ### Rel by places -/
section
variable {K : Fg} {B : Bs} {pa : Option Addr} {zs zs' : List (Option V)} {H F : Hp} {ws ws' : List Sl} {pn : S}
theorem Rel.sub (R : Rel K B pa zs H F ws pn) (f : Nat → Nat) (hl : zs'.length = ws'.length) (hf : ∀ i j, f i = f j → i = j) (h : ∀ (i : Nat) s, ws'[i]? = some s → ws[f i]? = some s ∧ zs'[i]? = zs[f i]?) : Rel K B pa zs' H F ws' pn := by
  obtain ⟨T, t⟩ := R.st
  refine ⟨hl, R.fh, R.base, R.f0, R.fr, fun i s e => ?_, fun i j xs ys a e1 e2 e3 e4 => ?_, ⟨T, t.r, t.hn, t.fn, t.bs, fun i xs a e1 e2 => ?_⟩, R.pal, R.sz⟩
  · obtain ⟨h1, h2⟩ := h i s e
    obtain ⟨o, q1, q2⟩ := R.sl _ s h1
    exact ⟨o, by rw [h2]; exact q1, q2⟩
  · obtain ⟨h1, h2⟩ := h i _ e1
    obtain ⟨g1, g2⟩ := h j _ e2
    exact hf i j (R.inj _ _ xs ys a h1 g1 (by rw [← h2]; exact e3) (by rw [← g2]; exact e4))
  · obtain ⟨h1, h2⟩ := h i _ e1
    exact t.ap _ xs a h1 (by rw [← h2]; exact e2)
theorem Rel.patch (R : Rel K B pa zs H F ws pn) (hl : zs'.length = ws'.length) (h : ∀ (i : Nat) s, ws'[i]? = some s → (ws[i]? = some s ∧ zs'[i]? = zs[i]?) ∨ ((∃ o, zs'[i]? = some o ∧ SlotR K B pa H F s o) ∧ ∀ xs, s ≠ .own xs)) : Rel K B pa zs' H F ws' pn := by
  obtain ⟨T, t⟩ := R.st
  refine ⟨hl, R.fh, R.base, R.f0, R.fr, fun i s e => ?_, fun i j xs ys a e1 e2 e3 e4 => ?_, ⟨T, t.r, t.hn, t.fn, t.bs, fun i xs a e1 e2 => (h i _ e1).elim (fun q => t.ap i xs a q.1 (by rw [← q.2]; exact e2)) fun q => absurd rfl (q.2 _)⟩, R.pal, R.sz⟩
  · rcases h i s e with ⟨h1, h2⟩ | ⟨h1, _⟩
    · obtain ⟨o, q1, q2⟩ := R.sl _ s h1
      exact ⟨o, by rw [h2]; exact q1, q2⟩
    · exact h1
  · rcases h i _ e1 with ⟨h1, h2⟩ | ⟨_, h1⟩
    · rcases h j _ e2 with ⟨g1, g2⟩ | ⟨_, g1⟩
      · exact R.inj _ _ xs ys a h1 g1 (by rw [← h2]; exact e3) (by rw [← g2]; exact e4)
      · exact absurd rfl (g1 _)
    · exact absurd rfl (h1 _)
theorem Rel.dropMid {os : List (Option V)} {ss : List Sl} {o : Option V} {s : Sl} (R : Rel K B pa (zs ++ os ++ [o]) H F (ws ++ ss ++ [s]) pn) (h0 : zs.length = ws.length) (h1 : os.length = ss.length) : Rel K B pa (zs ++ [o]) H F (ws ++ [s]) pn := by
  refine R.sub (fun i => if i < ws.length then i else i + ss.length) (by simp [h0]) (fun i j e => ?_) (fun i t e => ?_)
  · split at e <;> split at e <;> omega
  · rcases get_app e with e | ⟨rfl, rfl⟩
    · have hi := (List.getElem?_eq_some_iff.mp e).1
      rw [if_pos hi]
      rw [List.append_assoc, List.append_assoc, List.getElem?_append_left hi, List.getElem?_append_left (by omega), List.getElem?_append_left (by omega)]
      exact ⟨e, rfl⟩
    · rw [if_neg (Nat.lt_irrefl _)]
      have e1 : ws.length + ss.length = (ws ++ ss).length := by simp
      have e2 : ws.length + ss.length = (zs ++ os).length := by simp [h0, h1]
      refine ⟨by rw [e1]; exact app_last _ _, ?_⟩
      rw [e2, app_last, ← h0, app_last]
theorem Rel.setVal {d : D} {v : V} {i : Nat} (R : Rel K B pa zs H F ws pn) (h : DR K F d v) (hi : i < zs.length) : Rel K B pa (zs.set i (some v)) H F (ws.set i (.val d)) pn := (R.pushVal h).move hi
/-- what came from an iterator -/
theorem Rel.yl {d : D} {x : V} {H' : Hp} (R : Rel K B pa zs H F ws pn) (h : Yl K F H d x H') : ∃ F', Le F F' ∧ Rel K B pa zs H' F' ws pn ∧ DR K F' d x := by
  rcases h with ⟨rfl, h⟩ | ⟨p, ds, vs, rfl, rfl, hp, rfl, h, hz⟩
  · exact ⟨F, Le.refl _, R, h⟩
  · have R1 := R.pushTup hp h hz
    obtain ⟨n1, _, _⟩ := R.hnone hp
    exact ⟨_, le_upd n1, R1.pop, DR.tuple_.mpr ⟨p, vs, rfl, .inl (.inl upd_same), h.mono (le_upd n1)⟩⟩
end
/-! ### targets -/
abbrev GW (S : Type := Option Pen) := D → (En S) → ((En S) → Prop) → Prop
abbrev GWs (S : Type := Option Pen) := List D → (En S) → ((En S) → Prop) → Prop
def liftG (K : Fg) (is : List Nat) (g : (GW S)) : TG := fun v σ H Q => ∃ B pa τ F ρ θ P d, Rel K B pa (σ ++ τ) H F (ρ.sl ++ θ) ρ.pn ∧ ρ.sl.length = σ.length ∧ DR K F d v ∧ g d ρ P ∧
  ∀ ρ' σ', P ρ' → σ'.length = σ.length → ρ'.sl.length = σ.length → (∀ js, (∀ i ∈ is, i ∈ js) → wipe σ' js = wipe σ js) → Rel K B pa (σ' ++ τ) H F (ρ'.sl ++ θ) ρ'.pn → Q σ' H
def liftGs (K : Fg) (is : List Nat) (g : (GWs S)) : TGs := fun vs σ H Q => ∃ B pa τ F ρ θ P ds, Rel K B pa (σ ++ τ) H F (ρ.sl ++ θ) ρ.pn ∧ ρ.sl.length = σ.length ∧ DRs K F ds vs ∧ g ds ρ P ∧
  ∀ ρ' σ', P ρ' → σ'.length = σ.length → ρ'.sl.length = σ.length → (∀ js, (∀ i ∈ is, i ∈ js) → wipe σ' js = wipe σ js) → Rel K B pa (σ' ++ τ) H F (ρ'.sl ++ θ) ρ'.pn → Q σ' H
abbrev CG (X : Cx) (tg : Expr) (is : List Nat) (g : (GW S)) : Prop := PG X tg (liftG X.K is g)
abbrev CGs (X : Cx) (tg : List Expr) (is : List Nat) (g : (GWs S)) : Prop := PGs X tg (liftGs X.K is g)
theorem pg_mono {X : Cx} {e : Expr} {t u : TG} (h : PG X e t) (m : ∀ v σ H Q, u v σ H Q → t v σ H Q) : PG X e u := ⟨fun pins s σ H v u' Q I r q => h.run pins s σ H v u' Q I r (m v σ H Q q)⟩
theorem pgs_mono {X : Cx} {e : List Expr} {t u : TGs} (h : PGs X e t) (m : ∀ v σ H Q, u v σ H Q → t v σ H Q) : PGs X e u := ⟨fun pins s σ H v u' Q I r q => h.run pins s σ H v u' Q I r (m v σ H Q q)⟩
theorem wipe_get {σ : L2.St} {i : Nat} : ∀ {vs : List Nat}, (wipe σ vs)[i]? = if i ∈ vs then (if i < σ.length then some none else none) else σ[i]?
  | [] => by simp [wipe]
  | v :: vs => by
    unfold wipe
    by_cases h : v = i
    · subst h
      rw [List.getElem?_set_self', if_pos List.mem_cons_self]
      have := wipe_length σ vs
      by_cases hi : v < σ.length
      · rw [if_pos hi, List.getElem?_eq_getElem (by omega)]; rfl
      · rw [if_neg hi, List.getElem?_eq_none (by omega)]; rfl
    · rw [List.getElem?_set_ne h, wipe_get]
      by_cases h2 : i ∈ vs
      · rw [if_pos h2, if_pos (List.mem_cons_of_mem _ h2)]
      · rw [if_neg h2, if_neg (fun z => (List.mem_cons.mp z).elim (fun e => h e.symm) h2)]
theorem wipe_set {σ : L2.St} {i : Nat} {x : Option V} {js : List Nat} (h : i ∈ js) : wipe (σ.set i x) js = wipe σ js := by
  apply List.ext_getElem?
  intro j
  rw [wipe_get, wipe_get, List.length_set]
  by_cases hj : j ∈ js
  · rw [if_pos hj, if_pos hj]
  · rw [if_neg hj, if_neg hj, List.getElem?_set_ne (fun e => hj (by rw [← e]; exact h))]
theorem wipe_wipe {σ : L2.St} {vs : List Nat} : wipe (wipe σ vs) vs = wipe σ vs := by
  apply List.ext_getElem?
  intro j
  rw [wipe_get, wipe_length, wipe_get]
  split <;> rfl
section
variable {X : Cx} {pos : Pos} {k : Nat}
def gN (i : Nat) : (GW S) := fun d ρ P => P { ρ with sl := ρ.sl.set i (.val d) }
theorem cg_n (i : Nat) {x : Str} (nd : X.N.Nodup) (hi : X.N[i]? = some x := by rfl) (hx : Loc X.env.scope x := by first | exact .inl rfl | exact .inr rfl) (hf : X.fn x = true ∨ X.env.scope.names.lookup x = some .local := by first | exact .inl rfl | exact .inr rfl) : CG (S := S) X (.Name x pos) [i] (gN i) :=
  pg_mono (pg_name nd hi hx hf) fun v σ H Q ⟨B, pa, τ, F, ρ, θ, P, d, R, hl, hd, h, q⟩ => by
    by_cases hi : i < σ.length
    · have R1 := R.setVal hd (i := i) (by simp; omega)
      rw [List.set_append_left _ _ hi, List.set_append_left _ _ (by omega)] at R1
      exact q _ _ h (by simp) (by simpa using hl) (fun js hj => wipe_set (hj i (by simp))) R1
    · have e1 : σ.set i (some v) = σ := List.set_eq_of_length_le (by omega)
      have e2 : ρ.sl.set i (.val d) = ρ.sl := List.set_eq_of_length_le (by omega)
      have h : P { ρ with sl := ρ.sl.set i (.val d) } := h
      show Q (σ.set i (some v)) H
      rw [e2] at h
      rw [e1]
      exact q _ _ h rfl hl (fun _ _ => rfl) R
def gNil : (GWs S) := fun ds ρ P => ds = [] ∧ P ρ
def gCons (g : (GW S)) (u : (GWs S)) : (GWs S) := fun ds ρ P => match ds with
  | d :: r => g d ρ fun ρ1 => u r ρ1 P
  | [] => False
theorem cgs_nil : CGs (S := S) X [] [] gNil := pgs_mono pgs_nil fun v σ H Q ⟨B, pa, τ, F, ρ, θ, P, ds, R, hl, hd, ⟨h1, h⟩, q⟩ => by
  subst h1
  exact ⟨DRs.nil_.mp hd, q _ _ h rfl hl (fun _ _ => rfl) R⟩
theorem cgs_cons {e : Expr} {es : List Expr} {i1 i2 : List Nat} {g : (GW S)} {u : (GWs S)} (h1 : CG (S := S) X e i1 g) (h2 : CGs (S := S) X es i2 u) (hs : (assignEach (e :: es) X.env).map (·.2) = assign e X.env :: (assignEach es X.env).map (·.2) := by rfl) : CGs (S := S) X (e :: es) (i1 ++ i2) (gCons g u) :=
  pgs_mono (pgs_cons h1 h2 hs) fun v σ H Q ⟨B, pa, τ, F, ρ, θ, P, ds, R, hl, hd, h, q⟩ => by
    cases ds with
    | nil => exact h.elim
    | cons d ds =>
      obtain ⟨x, r, rfl, hd1, hd2⟩ := DRs.cons_.mp hd
      refine ⟨x, r, rfl, B, pa, τ, F, ρ, θ, _, d, R, hl, hd1, h, fun ρ1 σ1 hp l1 l2 w1 R1 => ?_⟩
      refine ⟨B, pa, τ, F, ρ1, θ, P, ds, R1, by omega, hd2, hp, fun ρ2 σ2 hp2 l3 l4 w2 R2 => ?_⟩
      exact q ρ2 σ2 hp2 (by omega) (by omega) (fun js hj => (w2 js fun i hi => hj i (List.mem_append_right _ hi)).trans (w1 js fun i hi => hj i (List.mem_append_left _ hi))) R2
def gT (n : Nat) (u : (GWs S)) : (GW S) := fun d ρ P => match d with
  | .tuple ds => ds.length = n ∧ u ds ρ P
  | _ => False
theorem cg_t {es : List Expr} {x1 : Nat} {is : List Nat} {u : (GWs S)} {n : Nat} (hx : XO X k) (h : CGs (S := S) X es is u) (hn : (assignEach es X.env).length = n := by rfl) (hst : (assignEach es X.env).findIdx? (·.1) = none := by rfl) : CG (S := S) X (.Tuple es x1 pos) is (gT n u) :=
  pg_mono (pg_tup hx.calm h hn hst) fun v σ H Q ⟨B, pa, τ, F, ρ, θ, P, d, R, hl, hd, h, q⟩ => by
    cases d with
    | tuple ds =>
      obtain ⟨a, vs, rfl, h1, h2⟩ := DR.tuple_.mp hd
      exact ⟨a, vs, rfl, R.fh.t h1, by rw [h2.len]; exact h.1, B, pa, τ, F, ρ, θ, P, ds, R, hl, h2, h.2, q⟩
    | _ => exact h.elim
end
end Dk
set_option Elab.async false
set_option linter.all false
set_option maxRecDepth 100000
set_option maxHeartbeats 2000000
/-! Dk, part 5c: comprehensions. -/
namespace Dk
open PySem PySem.Spec PyProof.Rows L2
variable {S : Type} [StK S]
def wipeD (ρ : List Sl) : List Nat → List Sl
  | [] => ρ
  | v :: vs => (wipeD ρ vs).set v .un
def keepV : Option Sl → Sl
  | some (.val d) => .val d
  | _ => .un
def unwipe (ρ0 ρ : List Sl) : List Nat → List Sl
  | [] => ρ
  | v :: vs => (unwipe ρ0 ρ vs).set v (keepV ρ0[v]?)
theorem wipeD_len (ρ : List Sl) : ∀ vs, (wipeD ρ vs).length = ρ.length
  | [] => rfl
  | v :: vs => by unfold wipeD; rw [List.length_set, wipeD_len ρ vs]
theorem unwipe_len (ρ0 ρ : List Sl) : ∀ vs, (unwipe ρ0 ρ vs).length = ρ.length
  | [] => rfl
  | v :: vs => by unfold unwipe; rw [List.length_set, unwipe_len ρ0 ρ vs]
theorem wipeD_get {ρ : List Sl} {i : Nat} : ∀ {vs : List Nat}, (wipeD ρ vs)[i]? = if i ∈ vs then (if i < ρ.length then some .un else none) else ρ[i]?
  | [] => by simp [wipeD]
  | v :: vs => by
    unfold wipeD
    by_cases h : v = i
    · subst h
      rw [List.getElem?_set_self', if_pos List.mem_cons_self]
      have := wipeD_len ρ vs
      by_cases hi : v < ρ.length
      · rw [if_pos hi, List.getElem?_eq_getElem (by omega)]; rfl
      · rw [if_neg hi, List.getElem?_eq_none (by omega)]; rfl
    · rw [List.getElem?_set_ne h, wipeD_get]
      by_cases h2 : i ∈ vs
      · rw [if_pos h2, if_pos (List.mem_cons_of_mem _ h2)]
      · rw [if_neg h2, if_neg (fun z => (List.mem_cons.mp z).elim (fun e => h e.symm) h2)]
theorem unwipe_get {ρ0 ρ : List Sl} {i : Nat} : ∀ {vs : List Nat}, (unwipe ρ0 ρ vs)[i]? = if i ∈ vs then (if i < ρ.length then some (keepV ρ0[i]?) else none) else ρ[i]?
  | [] => by simp [unwipe]
  | v :: vs => by
    unfold unwipe
    by_cases h : v = i
    · subst h
      rw [List.getElem?_set_self', if_pos List.mem_cons_self]
      have := unwipe_len ρ0 ρ vs
      by_cases hi : v < ρ.length
      · rw [if_pos hi, List.getElem?_eq_getElem (l := unwipe ρ0 ρ vs) (by omega)]; rfl
      · rw [if_neg hi, List.getElem?_eq_none (l := unwipe ρ0 ρ vs) (by omega)]; rfl
    · rw [List.getElem?_set_ne h, unwipe_get]
      by_cases h2 : i ∈ vs
      · rw [if_pos h2, if_pos (List.mem_cons_of_mem _ h2)]
      · rw [if_neg h2, if_neg (fun z => (List.mem_cons.mp z).elim (fun e => h e.symm) h2)]
theorem Rel.wiped {K : Fg} {B : Bs} {pa : Option Addr} {σ : L2.St} {τ : List (Option V)} {H F : Hp} {ρ θ : List Sl} {pn : S} (vs : List Nat) (R : Rel K B pa (σ ++ τ) H F (ρ ++ θ) pn) (hl : ρ.length = σ.length) : Rel K B pa (wipe σ vs ++ τ) H F (wipeD ρ vs ++ θ) pn := by
  have hτ : τ.length = θ.length := by have := R.len; simp at this; omega
  refine R.patch (by simp [wipe_length, wipeD_len, hl, hτ]) fun i s e => ?_
  by_cases hi : i < ρ.length
  · rw [List.getElem?_append_left (by rw [wipeD_len]; exact hi), wipeD_get] at e
    rw [List.getElem?_append_left hi, List.getElem?_append_left (by rw [wipe_length]; omega), List.getElem?_append_left (by omega), wipe_get]
    by_cases hv : i ∈ vs
    · rw [if_pos hv, if_pos hi] at e
      rw [if_pos hv, if_pos (by omega)]
      cases e
      exact .inr ⟨⟨none, rfl, trivial⟩, fun _ => nofun⟩
    · rw [if_neg hv] at e
      rw [if_neg hv]
      exact .inl ⟨e, rfl⟩
  · rw [List.getElem?_append_right (by rw [wipeD_len]; omega), wipeD_len] at e
    rw [List.getElem?_append_right (by omega), List.getElem?_append_right (by rw [wipe_length]; omega), List.getElem?_append_right (by omega), wipe_length]
    exact .inl ⟨e, rfl⟩
theorem Rel.unwiped {K : Fg} {B : Bs} {pa : Option Addr} {σ : L2.St} {τ τ0 : List (Option V)} {H F H0 F0 : Hp} {ρ ρ0 θ θ0 : List Sl} {pn pn0 : S} (vs : List Nat) (R : Rel K B pa (wipe σ vs ++ τ) H F (ρ ++ θ) pn) (hl : ρ.length = σ.length) (R0 : Rel K B pa (σ ++ τ0) H0 F0 (ρ0 ++ θ0) pn0) (hl0 : ρ0.length = σ.length) (hF : Le F0 F) : Rel K B pa (σ ++ τ) H F (unwipe ρ0 ρ vs ++ θ) pn := by
  have hτ : τ.length = θ.length := by have := R.len; simp [wipe_length] at this; omega
  refine R.patch (by simp [unwipe_len, hl, hτ]) fun i s e => ?_
  by_cases hi : i < ρ.length
  · rw [List.getElem?_append_left (by rw [unwipe_len]; exact hi), unwipe_get] at e
    rw [List.getElem?_append_left hi, List.getElem?_append_left (by omega), List.getElem?_append_left (by rw [wipe_length]; omega), wipe_get]
    by_cases hv : i ∈ vs
    · rw [if_pos hv, if_pos hi] at e
      cases e
      refine .inr ⟨?_, fun xs => ?_⟩
      · have hs : i < σ.length := by omega
        refine ⟨σ[i], List.getElem?_eq_getElem hs, ?_⟩
        cases hk : ρ0[i]? with
        | none => trivial
        | some t =>
          cases t with
          | val d =>
            obtain ⟨o, h1, v, h2, h3⟩ := R0.sl i (.val d) (by rw [List.getElem?_append_left (by omega)]; exact hk)
            subst h2
            rw [List.getElem?_append_left hs, List.getElem?_eq_getElem hs] at h1
            exact ⟨v, by injection h1, h3.mono hF⟩
          | _ => trivial
      · cases hk : ρ0[i]? with
        | none => nofun
        | some t => cases t <;> nofun
    · rw [if_neg hv] at e
      rw [if_neg hv]
      exact .inl ⟨e, rfl⟩
  · rw [List.getElem?_append_right (by rw [unwipe_len]; omega), unwipe_len] at e
    rw [List.getElem?_append_right (by omega), List.getElem?_append_right (by omega), List.getElem?_append_right (by rw [wipe_length]; omega), wipe_length]
    exact .inl ⟨e, rfl⟩
theorem Rel.last {K : Fg} {B : Bs} {pa : Option Addr} {zs : List (Option V)} {H F : Hp} {ws : List Sl} {pn : S} {o : Option V} {s : Sl} (R : Rel K B pa (zs ++ [o]) H F (ws ++ [s]) pn) : SlotR K B pa H F s o ∧ (zs ++ [o])[ws.length]? = some o := by
  have h := R.pop.len
  obtain ⟨o', h1, h2⟩ := R.sl ws.length s (app_last _ _)
  rw [← h, app_last] at h1
  cases h1
  exact ⟨h2, by rw [← h, app_last]⟩
theorem Rel.focus {K : Fg} {B : Bs} {pa : Option Addr} {zs : List (Option V)} {H F : Hp} {ws : List Sl} {pn : S} (R : Rel K B pa zs H F ws pn) : Rel K ⟨B.H0, F, B.M⟩ pa zs H F ws pn :=
  ⟨R.len, R.fh, R.base, Le.refl _, fun b o e => .inl e, R.sl, R.inj, R.st.imp fun _ t => ⟨t.r, t.hn, t.fn, t.bs, t.ap⟩, R.pal, R.sz⟩
theorem Rel.rebase {K : Fg} {B : Bs} {pa : Option Addr} {zs zs1 : List (Option V)} {H F H1 F1 : Hp} {ws ws1 : List Sl} {pn pn1 : S} (R : Rel K ⟨B.H0, F1, B.M⟩ pa zs H F ws pn) (R1 : Rel K B pa zs1 H1 F1 ws1 pn1) : Rel K B pa zs H F ws pn :=
  ⟨R.len, R.fh, R.base, R1.f0.trans R.f0, fun b o e => (R.fr b o e).elim (R1.fr b o) .inr, R.sl, R.inj, R.st.imp fun _ t => ⟨t.r, t.hn, t.fn, t.bs, t.ap⟩, R.pal, R.sz⟩
theorem rds_mem {ρ : En S} : ∀ {ks : List Tk} {ds : List D} {j : Nat} {k : Tk}, rds ρ ks = some ds → ks[j]? = some k → ∃ d, k.rd ρ = some d
  | [], ds, j, k, _, e => by simp at e
  | k' :: ks, ds, j, k, h, e => by
    rw [rds_cons] at h
    obtain ⟨d, h1, h⟩ := Option.bind_eq_some_iff.mp h
    obtain ⟨ds', h2, h⟩ := Option.bind_eq_some_iff.mp h
    cases j with
    | zero => simp at e; subst e; exact ⟨d, h1⟩
    | succ j => exact rds_mem h2 (by simpa using e)
/-- the sources are read while the block's own names are wiped -/
theorem live_read {K : Fg} {B : Bs} {pa : Option Addr} {σ : L2.St} {τ : List (Option V)} {H F : Hp} {ρ : En S} {ρ0 θ : List Sl} {vs : List Nat} {us : List V} {c : Sc} {items : List D} (R : Rel K B pa (wipe σ vs ++ (τ ++ us.map some)) H F (ρ.sl ++ (θ ++ c.ks.map Tk.sl)) ρ.pn) (hl : ρ.sl.length = σ.length) (hτ : τ.length = θ.length) (hρ : ρ.sl = wipeD ρ0 vs)
    (hk : c.ks.length = us.length) (s1 : ∀ (j : Nat) i v, c.ks[j]? = some (.slot i) → us[j]? = some v → σ[i]? = some (some v)) (h : c.items ρ = some items) : ∃ ds, RdDs K H F ds us ∧ c.f ds = some items := by
  obtain ⟨ds, h1, h2⟩ := Option.bind_eq_some_iff.mp h
  refine ⟨ds, reads_all (σ := wipe σ vs) (by rw [wipe_length]; exact hl) c.ks us τ θ ds hτ hk R (fun j i v e1 e2 => ?_) h1, h2⟩
  obtain ⟨d, h3⟩ := rds_mem h1 e1
  have h3 : (ρ.sl[i]?).bind Sl.rd = some d := h3
  have hn : i ∉ vs := fun hv => by
    rw [hρ, wipeD_get, if_pos hv] at h3
    split at h3 <;> cases h3
  rw [wipe_get, if_neg hn]
  exact s1 j i v e1 e2
def Tk.valD : Tk → Option D
  | .tmp (.val d) => some d
  | _ => none
@[simp] theorem valD_val {d : D} : Tk.valD (.tmp (.val d)) = some d := rfl
theorem valD_some {k : Tk} {d : D} (h : k.valD = some d) : k = .tmp (.val d) := by
  unfold Tk.valD at h
  split at h
  · cases h; rfl
  · cases h
def lcW (c : Sc) (items : List D) (g : (GW S)) (tt : (BW S)) (te : (OW S)) (vs : List Nat) (Q : List D → (En S) → Prop) : List D → List D → (En S) → Prop
  | [], acc, ρ => c.items ρ = some items ∧ Q acc ρ
  | d :: r, acc, ρ => c.items ρ = some items ∧ g d ρ fun ρ1 => tt ρ1 fun b ρ2 => if b = true then te ρ2 fun k ρ3 => gets k.valD fun y => lcW c items g tt te vs Q r (acc ++ [y]) { ρ3 with sl := wipeD ρ3.sl vs } else lcW c items g tt te vs Q r acc { ρ2 with sl := wipeD ρ2.sl vs }
def dLc (it : (IW S)) (g : (GW S)) (tt : (BW S)) (te : (OW S)) (vs : List Nat) : (DW S) := fun ρ P => it ρ fun c ρ1 => gets (c.items ρ1) fun items => items.length ≤ sizeLine →
  lcW c items g tt te vs (fun acc ρ2 => P (.own acc) { ρ2 with sl := unwipe ρ1.sl ρ2.sl vs }) items [] { ρ1 with sl := wipeD ρ1.sl vs }
theorem lc_step {K : Fg} {it : (IW S)} {g : (GW S)} {tt : (BW S)} {te : (OW S)} {is vs : List Nat} (hv : ∀ i ∈ is, i ∈ vs) {σ : L2.St} {H : Hp} {Q : VK} (h : liftO K (tmpD (dLc it g tt te vs)) σ H Q) : tLc (liftI K it) (liftG K is g) (liftT K tt) (liftO K te) vs σ H Q := by
  obtain ⟨B, pa, τ, F, ρ, θ, P, R, hl, h, q⟩ := toE h
  refine ⟨B, pa, τ, F, ρ, θ, _, R, hl, h, fun c ρ1 us H1 F1 J h1 hl1 hk R1 s1 src => fun Da hDa => ?_⟩
  obtain ⟨items, ei, h1⟩ := gets_elim h1
  have hτ : τ.length = θ.length := by have := (R1.pops (by simp [hk])).len; simp at this; omega
  have R1' : Rel K B pa (σ ++ (τ ++ us.map some)) H1 F1 (ρ1.sl ++ (θ ++ c.ks.map Tk.sl)) ρ1.pn := by simpa only [List.append_assoc] using R1
  obtain ⟨ds0, er, ef⟩ := Option.bind_eq_some_iff.mp ei
  have rd0 := reads_all (σ := σ) hl1 c.ks us τ θ ds0 hτ hk R1' s1 er
  obtain ⟨_, hsz⟩ := src.stop H1 F1 ds0 items R1.sz R1.fh rd0 ef
  have h1 := h1 hsz
  refine ⟨fun i m Hc => ∃ (ρc ρ0 : (En S)) (Fc : Hp) (acc : List D), Rel K ⟨B.H0, F1, B.M⟩ pa (wipe σ vs ++ (τ ++ us.map some) ++ [some (.ref Da)]) Hc Fc (ρc.sl ++ (θ ++ c.ks.map Tk.sl) ++ [.own acc]) ρc.pn ∧ ρc.sl.length = σ.length ∧ ρc.sl = wipeD ρ0.sl vs ∧ i ≤ items.length ∧ m = items.length - i ∧ acc.length ≤ i ∧
    lcW c items g tt te vs (fun acc ρ2 => P (.own acc) { ρ2 with sl := unwipe ρ1.sl ρ2.sl vs }) (items.drop i) acc ρc, ⟨items.length, { ρ1 with sl := wipeD ρ1.sl vs }, ρ1, F1, [], ?_, by simp [wipeD_len, hl1], rfl, Nat.zero_le _, rfl, Nat.le_refl _, h1⟩, ?_⟩
  · have R2 := R1'.focus.pushOwn (vs := []) hDa .nil (Nat.zero_le _)
    rw [List.append_assoc σ, List.append_assoc ρ1.sl] at R2
    have R3 := R2.wiped vs hl1
    rw [← List.append_assoc (wipe σ vs), ← List.append_assoc (wipeD ρ1.sl vs)] at R3
    exact R3
  · rintro i m Hc ⟨ρc, ρ0, Fc, acc, Rc, hlc, hw, hi, rfl, ha, hq⟩
    by_cases hlt : i < items.length
    · have ed : items.drop i = items[i] :: items.drop (i + 1) := List.drop_eq_getElem_cons hlt
      rw [ed] at hq
      obtain ⟨hlive, hq⟩ := hq
      obtain ⟨ds, rd, ef⟩ := live_read Rc.pop hlc hτ hw hk s1 hlive
      obtain ⟨go, yl⟩ := src.step Hc Fc ds items i items[i] Rc.sz Rc.fh rd ef (List.getElem?_eq_getElem hlt)
      refine .inr ⟨go, fun H' => ∃ (ρc ρ0 : (En S)) (Fc : Hp) (acc : List D), Rel K ⟨B.H0, F1, B.M⟩ pa (wipe σ vs ++ (τ ++ us.map some) ++ [some (.ref Da)]) H' Fc (ρc.sl ++ (θ ++ c.ks.map Tk.sl) ++ [.own acc]) ρc.pn ∧ ρc.sl.length = σ.length ∧ ρc.sl = wipeD ρ0.sl vs ∧ acc.length ≤ i + 1 ∧
        lcW c items g tt te vs (fun acc ρ2 => P (.own acc) { ρ2 with sl := unwipe ρ1.sl ρ2.sl vs }) (items.drop (i + 1)) acc ρc, fun H' ⟨ρc, ρ0, Fc, acc, a1, a2, a3, a5, a6⟩ => ⟨items.length - (i + 1), by omega, ρc, ρ0, Fc, acc, a1, a2, a3, hlt, rfl, a5, a6⟩, fun x H' hy => ?_⟩
      obtain ⟨F', hF', R', dx⟩ := Rc.yl (yl x H' hy)
      refine ⟨⟨B.H0, F1, B.M⟩, pa, τ ++ us.map some ++ [some (.ref Da)], F', ρc, θ ++ c.ks.map Tk.sl ++ [.own acc], _, items[i], by simpa only [List.append_assoc] using R', by rw [wipe_length]; exact hlc, dx, hq, fun ρ2 σ2 h2 l1 l2 w2 R2 => ⟨?_, ?_⟩⟩
      · rw [w2 vs hv, wipe_wipe]
      · rw [wipe_length] at l1 l2
        have ew : wipe σ2 vs = wipe σ vs := by rw [w2 vs hv, wipe_wipe]
        refine ⟨⟨B.H0, F1, B.M⟩, pa, _, F', ρ2, _, _, R2, by omega, h2, fun b ρ3 H3 F3 h3 l3 R3 => ?_⟩
        cases b with
        | false =>
          refine iteF ⟨{ ρ3 with sl := wipeD ρ3.sl vs }, ρ3, F3, acc, ?_, by simp [wipeD_len]; omega, rfl, by omega, by simpa using h3⟩
          have R4 := R3.wiped vs (by omega)
          rw [ew] at R4
          simpa only [List.append_assoc] using R4
        | true =>
          have h3 : te ρ3 fun k ρ4 => gets k.valD fun y => lcW c items g tt te vs (fun acc ρ2 => P (.own acc) { ρ2 with sl := unwipe ρ1.sl ρ2.sl vs }) (items.drop (i + 1)) (acc ++ [y]) { ρ4 with sl := wipeD ρ4.sl vs } := by simpa using h3
          refine iteT ⟨⟨B.H0, F1, B.M⟩, pa, _, F3, ρ3, _, _, R3, by omega, h3, fun k ρ4 y H4 F4 h4 l4 R4 _ => ?_⟩
          obtain ⟨d, ek, h4⟩ := gets_elim h4
          have ek := valD_some ek
          subst ek
          obtain ⟨⟨u, g2, g3⟩, _⟩ := Rel.last (s := .val d) R4
          cases g2
          have R5 : Rel K ⟨B.H0, F1, B.M⟩ pa (σ2 ++ (τ ++ us.map some) ++ [some (.ref Da)]) H4 F4 (ρ4.sl ++ (θ ++ c.ks.map Tk.sl) ++ [.own acc]) ρ4.pn := by simpa only [List.append_assoc] using R4.pop
          obtain ⟨⟨a', av, q2, q3, q4, _⟩, q1⟩ := R5.last
          cases q2
          have hal : av.length < sizeLine := by rw [q4.len]; omega
          refine ⟨av, q3, hal, { ρ4 with sl := wipeD ρ4.sl vs }, ρ4, F4, acc ++ [d], ?_, by simp [wipeD_len]; omega, rfl, by simp; omega, h4⟩
          have R6 := R5.write (i := (ρ4.sl ++ (θ ++ c.ks.map Tk.sl)).length) (a := Da) (ys := acc ++ [d]) (vs := av ++ [y]) (app_last _ _) q1 (q4.append (.cons g3 .nil)) (by simp; omega)
          rw [List.set_append_right _ _ (Nat.le_refl _), Nat.sub_self] at R6
          have R7 : Rel K ⟨B.H0, F1, B.M⟩ pa (σ2 ++ (τ ++ us.map some ++ [some (.ref Da)])) (upd H4 Da (.lst (av ++ [y]))) F4 (ρ4.sl ++ (θ ++ c.ks.map Tk.sl ++ [.own (acc ++ [d])])) ρ4.pn := by simpa only [List.append_assoc, List.set_cons_zero] using R6
          have R8 := R7.wiped vs (by omega)
          rw [ew] at R8
          simpa only [List.append_assoc] using R8
    · have e : i = items.length := by omega
      subst e
      rw [List.drop_length] at hq
      obtain ⟨hlive, hq⟩ := hq
      obtain ⟨ds, rd, ef⟩ := live_read Rc.pop hlc hτ hw hk s1 hlive
      refine .inl ⟨(src.stop Hc Fc ds items Rc.sz Rc.fh rd ef).1, q _ _ _ Hc Fc hq (by simp [unwipe_len, hlc]) ?_⟩
      have R5 : Rel K ⟨B.H0, F1, B.M⟩ pa (wipe σ vs ++ (τ ++ us.map some ++ [some (.ref Da)])) Hc Fc (ρc.sl ++ (θ ++ c.ks.map Tk.sl ++ [.own acc])) ρc.pn := by simpa only [List.append_assoc] using Rc
      have R6 := (R5.rebase R1').unwiped vs hlc R1' hl1 Rc.f0
      have R7 : Rel K B pa ((σ ++ τ) ++ us.map some ++ [some (.ref Da)]) Hc Fc ((unwipe ρ1.sl ρc.sl vs ++ θ) ++ c.ks.map Tk.sl ++ [.own acc]) ρc.pn := by simpa only [List.append_assoc] using R6
      exact R7.dropMid (by simp [unwipe_len, hlc, hl1, hτ]) (by simp [hk])
section
variable {X : Cx} {tg iter elt : Expr} {ifs : List Expr} {scope : Scope} {pos : Pos} {k : Nat} {it : (IW S)} {g : (GW S)} {tt : (BW S)} {te : (OW S)} {is : List Nat} {own : List (Str × Nat)}
abbrev CTs (X : Cx) (ifs : List Expr) (t : (BW S)) : Prop := PTs X ifs (liftT X.K t)
def dYes : (BW S) := fun ρ P => P true ρ
theorem pts_mono {X : Cx} {ifs : List Expr} {t u : TT} (h : PTs X ifs t) (m : ∀ σ H Q, u σ H Q → t σ H Q) : PTs X ifs u := ⟨fun pins s σ H Q I q => h.run pins s σ H Q I (m σ H Q q)⟩
theorem cts_nil {X : Cx} : CTs (S := S) X [] dYes := pts_mono pts_nil fun σ H Q ⟨B, pa, τ, F, ρ, θ, P, R, hl, h, q⟩ => q true ρ H F h hl R
theorem cts_one {X : Cx} {c : Expr} {t : (BW S)} (h : CT (S := S) X c t) : CTs (S := S) X [c] t := pts_one h
theorem XO.blk {s : Shared} {H : Hp} {cenv : Env} {fp : List Addr} (h : XO X k) : XO (X.blk s H scope cenv fp) k := ⟨h.calm, h.room, h.gd, h.nd, PassesOwn.never⟩
theorem ce_lc (own : List (Str × Nat)) (hx : XO X k) (hi : CI (S := S) X tg iter it)
    (hg : ∀ (s : Shared) (H : Hp) (C : Addr) (cl : List (Str × Addr)) (fp : List Addr), CG (S := S) (X.blk s H scope (compEnvC scope cl C X.env) fp) tg is g)
    (ht : ∀ (s : Shared) (H : Hp) (C : Addr) (cl : List (Str × Addr)) (fp : List Addr), CTs (S := S) (X.blk s H scope (compEnvC scope cl C X.env) fp) ifs tt)
    (he : ∀ (s : Shared) (H : Hp) (C : Addr) (cl : List (Str × Addr)) (fp : List Addr), CO (S := S) (X.blk s H scope (compEnvC scope cl C X.env) fp) elt te)
    (ok : blkC X.N X.env.scope scope own = true := by kernel_rfl) (hv : ∀ i ∈ is, i ∈ own.map (·.2) := by decide) (hs : ∀ x, foldedSetIterable iter X.env x = pure x := by intro _; rfl) :
    CE (S := S) X (.ListComp elt [⟨tg, iter, ifs, 0⟩] scope pos) (dLc it g tt te (own.map (·.2))) := pe_mono (pe_lc hx.calm hx.nd hi (blkOk_by ok) hg ht he hs) fun _ _ _ h => lc_step hv h
end
end Dk
set_option Elab.async false
set_option linter.all false
set_option maxRecDepth 100000
set_option maxHeartbeats 2000000
/-! Dk, part 6: statements. -/
namespace Dk
open PySem PySem.Spec PyProof.Rows L2
variable {S : Type} [StK S]
structure DE (S : Type := Option Pen) where
  nx : (En S) → Prop
  rt : D → S → Prop
  bk : (En S) → Prop := fun _ => False
  ct : (En S) → Prop := fun _ => False
abbrev DS (S : Type := Option Pen) := (DE S) → (En S) → Prop
structure Cont (K : Fg) (B : Bs) (pa : Option Addr) (τ : List (Option V)) (θ : List Sl) (n : Nat) (E : (DE S)) (Z : Ends) : Prop where
  nx : ∀ (σ : L2.St) (ρ : (En S)) (H F : Hp), E.nx ρ → σ.length = n → ρ.sl.length = n → Rel K B pa (σ ++ τ) H F (ρ.sl ++ θ) ρ.pn → Z.nx σ H
  bk : ∀ (σ : L2.St) (ρ : (En S)) (H F : Hp), E.bk ρ → σ.length = n → ρ.sl.length = n → Rel K B pa (σ ++ τ) H F (ρ.sl ++ θ) ρ.pn → Z.bk σ H
  ct : ∀ (σ : L2.St) (ρ : (En S)) (H F : Hp), E.ct ρ → σ.length = n → ρ.sl.length = n → Rel K B pa (σ ++ τ) H F (ρ.sl ++ θ) ρ.pn → Z.ct σ H
  rt : ∀ (zs : List (Option V)) (ws : List Sl) (d : D) (pn : S) (v : V) (H F : Hp), E.rt d pn → Rel K B pa (zs ++ [some v]) H F (ws ++ [.val d]) pn → Z.rt v H
def liftS (K : Fg) (t : (DS S)) : TS := fun Z σ H => ∃ B pa τ F ρ θ E, Rel K B pa (σ ++ τ) H F (ρ.sl ++ θ) ρ.pn ∧ ρ.sl.length = σ.length ∧ t E ρ ∧ Cont K B pa τ θ σ.length E Z
abbrev CS (X : Cx) (s : Stmt) (t : (DS S)) : Prop := PS X s (liftS X.K t)
abbrev CSs (X : Cx) (s : List Stmt) (t : (DS S)) : Prop := PSs X s (liftS X.K t)
theorem ps_mono {X : Cx} {s : Stmt} {t u : TS} (h : PS X s t) (m : ∀ Z σ H, u Z σ H → t Z σ H) : PS X s u := ⟨fun pins s σ H Z I q => h.run pins s σ H Z I (m Z σ H q)⟩
theorem pss_mono {X : Cx} {s : List Stmt} {t u : TS} (h : PSs X s t) (m : ∀ Z σ H, u Z σ H → t Z σ H) : PSs X s u := ⟨fun pins s σ H Z I q => h.run pins s σ H Z I (m Z σ H q)⟩
section
variable {X : Cx} {s : Stmt} {ss a b : List Stmt} {e c : Expr} {t u : (DS S)} {te : (DW S)} {to : (OW S)} {tb : (BW S)} {pos p : Pos} {k : Nat}
def sNil : (DS S) := fun E ρ => E.nx ρ
def sCons (t u : (DS S)) : (DS S) := fun E ρ => t { E with nx := fun ρ1 => u E ρ1 } ρ
theorem css_nil : CSs (S := S) X [] sNil := pss_mono pss_nil fun Z σ H ⟨B, pa, τ, F, ρ, θ, E, R, hl, h, q⟩ => q.nx σ ρ H F h rfl hl R
theorem css_cons (h1 : CS (S := S) X s t) (h2 : CSs (S := S) X ss u) : CSs (S := S) X (s :: ss) (sCons t u) := pss_mono (pss_cons h1 h2) fun Z σ H ⟨B, pa, τ, F, ρ, θ, E, R, hl, h, q⟩ =>
  ⟨B, pa, τ, F, ρ, θ, _, R, hl, h, fun σ1 ρ1 H1 F1 h1 l1 l2 R1 => ⟨B, pa, τ, F1, ρ1, θ, E, R1, by omega, h1, by rw [l1]; exact q⟩, q.bk, q.ct, q.rt⟩
theorem css_one (h1 : CS (S := S) X s t) : CSs (S := S) X [s] t := pss_one h1
/-- x = e -/
def dSet (i : Nat) (t : (DW S)) : (DS S) := fun E ρ => t ρ fun r ρ1 => E.nx { ρ1 with sl := ρ1.sl.set i r.sl }
theorem set_step {K : Fg} {i : Nat} {Z : Ends} {σ : L2.St} {H : Hp} (hi : i < σ.length) (h : liftS K (dSet i te) Z σ H) : liftO K (tmpD te) σ H fun x H1 => gName i x σ H1 Z.nx := by
  obtain ⟨B, pa, τ, F, ρ, θ, E, R, hl, h, q⟩ := h
  refine ofE ⟨B, pa, τ, F, ρ, θ, _, R, hl, h, fun r ρ1 v H1 F1 h1 l1 R1 => ?_⟩
  have R2 := R1.move (i := i) (by simp; omega)
  rw [List.set_append_left _ _ hi, List.set_append_left _ _ (by omega)] at R2
  exact q.nx _ _ H1 F1 h1 (by simp) (by simpa using l1) R2
theorem cs_set (i : Nat) {x : Str} {p' : Pos} (hx0 : XO X k) (he : CE (S := S) X e te) (hi : X.N[i]? = some x := by rfl) (hx : Loc X.env.scope x := by first | exact .inl rfl | exact .inr rfl) (hs : swapsWith e (some (.Name x p')) pos.line X.env = pure false := by rfl)
    (hf : X.fn x = true ∨ X.env.scope.names.lookup x = some .local := by first | exact .inl rfl | exact .inr rfl) : CS (S := S) X (.Assign [.Name x p'] e pos) (dSet i te) := by
  refine ⟨fun pins s σ H Z I h => ?_⟩
  exact (ps_set hx0.nd hi hx he hs hf).run pins s σ H Z I (set_step (by rw [I.len]; exact (List.getElem?_eq_some_iff.mp hi).1) h)
/-- x = [.. for ..], x a local -/
theorem cs_setLc (i : Nat) {x : Str} {py : Pos} {tg iter elt : Expr} {ifs : List Expr} {scope : Scope} {it : (IW S)} {g : (GW S)} {tt : (BW S)} {te : (OW S)} {is : List Nat} (own : List (Str × Nat)) (hx0 : XO X k) (hi : CI (S := S) X tg iter it)
    (hg : ∀ (s : Shared) (H : Hp) (C : Addr) (cl : List (Str × Addr)) (fp : List Addr), CG (S := S) (X.blk s H scope (compEnvC scope cl C X.env) fp) tg is g)
    (ht : ∀ (s : Shared) (H : Hp) (C : Addr) (cl : List (Str × Addr)) (fp : List Addr), CTs (S := S) (X.blk s H scope (compEnvC scope cl C X.env) fp) ifs tt)
    (he : ∀ (s : Shared) (H : Hp) (C : Addr) (cl : List (Str × Addr)) (fp : List Addr), CO (S := S) (X.blk s H scope (compEnvC scope cl C X.env) fp) elt te)
    (hxi : X.N[i]? = some x := by rfl) (hyl : X.env.scope.names.lookup x = some .local := by rfl)
    (hsw : swapsWith (.ListComp elt [⟨tg, iter, ifs, 0⟩] scope p) (some (.Name x py)) pos.line X.env = pure true := by exact sw_true rfl rfl rfl (by decide +kernel))
    (ok : blkC X.N X.env.scope scope own = true := by kernel_rfl) (hv : ∀ i ∈ is, i ∈ own.map (·.2) := by decide) (hs : ∀ x, foldedSetIterable iter X.env x = pure x := by intro _; rfl) :
    CS (S := S) X (.Assign [.Name x py] (.ListComp elt [⟨tg, iter, ifs, 0⟩] scope p) pos) (dSet i (dLc it g tt te (own.map (·.2)))) := by
  refine ⟨fun pins s σ H Z I h => ?_⟩
  exact (ps_setLc hx0.calm hx0.nd hxi hyl hsw hi (blkOk_by ok) hg ht he hs).run pins s σ H Z I (lc_step hv (set_step (by rw [I.len]; exact (List.getElem?_eq_some_iff.mp hxi).1) h))
/-- return e -/
def dRet (t : (DW S)) : (DS S) := fun E ρ => t ρ fun r ρ1 => E.rt r.d ρ1.pn
theorem cs_ret (he : CE (S := S) X e te) : CS (S := S) X (.Return (some e) pos) (dRet te) := ps_mono (ps_ret he) fun Z σ H ⟨B, pa, τ, F, ρ, θ, E, R, hl, h, q⟩ =>
  ofE ⟨B, pa, τ, F, ρ, θ, _, R, hl, h, fun r ρ1 v H1 F1 h1 l1 R1 => by
    obtain ⟨F2, _, R2⟩ := freezeLast R1
    exact q.rt _ _ _ _ v H1 F2 h1 R2⟩
def dRetN : (DS S) := fun E ρ => E.rt .none ρ.pn
theorem cs_retN : CS (S := S) X (.Return none pos) dRetN := ps_mono ps_retN fun Z σ H ⟨B, pa, τ, F, ρ, θ, E, R, hl, h, q⟩ => q.rt _ _ _ _ .non H F h (R.pushVal (d := .none) (DR.non_.mpr rfl))
def sPass : (DS S) := fun E ρ => E.nx ρ
theorem cs_pass : CS (S := S) X (.Pass pos) sPass := ps_mono ps_pass fun Z σ H ⟨B, pa, τ, F, ρ, θ, E, R, hl, h, q⟩ => q.nx σ ρ H F h rfl hl R
def sCont : (DS S) := fun E ρ => E.ct ρ
theorem cs_cont : CS (S := S) X (.Continue pos) sCont := ps_mono ps_continue fun Z σ H ⟨B, pa, τ, F, ρ, θ, E, R, hl, h, q⟩ => q.ct σ ρ H F h rfl hl R
def sBreak : (DS S) := fun E ρ => E.bk ρ
theorem cs_break : CS (S := S) X (.Break pos) sBreak := ps_mono ps_break fun Z σ H ⟨B, pa, τ, F, ρ, θ, E, R, hl, h, q⟩ => q.bk σ ρ H F h rfl hl R
/-- e alone -/
def dExpr (t : (DW S)) : (DS S) := fun E ρ => t ρ fun _ ρ1 => E.nx ρ1
theorem cs_expr (he : CE (S := S) X e te) (hs : swapsWith e none pos.line X.env = pure false := by rfl) : CS (S := S) X (.Expr e pos) (dExpr te) := ps_mono (ps_expr he hs) fun Z σ H ⟨B, pa, τ, F, ρ, θ, E, R, hl, h, q⟩ =>
  ofE ⟨B, pa, τ, F, ρ, θ, _, R, hl, h, fun r ρ1 v H1 F1 h1 l1 R1 => q.nx σ ρ1 H1 F1 h1 rfl l1 R1.pop⟩
def dIfS (c : (BW S)) (t u : (DS S)) : (DS S) := fun E ρ => c ρ fun b ρ1 => if b = true then t E ρ1 else u E ρ1
theorem cs_if (hc : CT (S := S) X c tb) (ha : CSs (S := S) X a t) (hb : CSs (S := S) X b u) : CS (S := S) X (.If c a b pos) (dIfS tb t u) := ps_mono (ps_if hc ha hb) fun Z σ H ⟨B, pa, τ, F, ρ, θ, E, R, hl, h, q⟩ =>
  ⟨B, pa, τ, F, ρ, θ, _, R, hl, h, fun b ρ1 H1 F1 h1 l1 R1 => by
    cases b with
    | true => exact iteT ⟨B, pa, τ, F1, ρ1, θ, E, R1, l1, h1, q⟩
    | false => exact iteF ⟨B, pa, τ, F1, ρ1, θ, E, R1, l1, h1, q⟩⟩
/-- a, b = e (e gives a tuple) -/
def dSetT (g : (GW S)) (t : (DW S)) : (DS S) := fun E ρ => t ρ fun r ρ1 => g r.d ρ1 E.nx
theorem cs_setT {tg : Expr} {is : List Nat} {g : (GW S)} (hg : CG (S := S) X tg is g) (he : CE (S := S) X e te) (hs : swapsWithSole [tg] e pos.line X.env = pure false := by rfl) (hw : swappedStores [tg] e X.env = pure none := by rfl) (hq : (assignEach [tg] X.env).map (·.2) = [assign tg X.env] := by rfl) : CS (S := S) X (.Assign [tg] e pos) (dSetT g te) :=
  ps_mono (ps_asg he hg hs hw hq) fun Z σ H ⟨B, pa, τ, F, ρ, θ, E, R, hl, h, q⟩ =>
    ofE ⟨B, pa, τ, F, ρ, θ, _, R, hl, h, fun r ρ1 v H1 F1 h1 l1 R1 => by
      obtain ⟨F2, _, R2⟩ := freezeLast R1
      obtain ⟨⟨v', e', hd⟩, _⟩ := Rel.last (s := .val r.d) R2
      cases e'
      exact ⟨B, pa, τ, F2, ρ1, θ, E.nx, r.d, R2.pop, l1, hd, h1, fun ρ2 σ2 h2 l2 l3 _ R3 => q.nx σ2 ρ2 H1 F2 h2 l2 l3 R3⟩⟩
/-! ### loops -/
def Tk.slot? : Tk → Bool
  | .slot _ => true
  | .fb _ => true
  | _ => false
def forW (g : (GW S)) (b : (DS S)) (E : (DE S)) : List D → (En S) → Prop
  | [], ρ => E.nx ρ
  | d :: r, ρ => g d ρ fun ρ1 => b { nx := forW g b E r, rt := E.rt, bk := E.nx, ct := forW g b E r } ρ1
def dFor (it : (IW S)) (g : (GW S)) (b : (DS S)) : (DS S) := fun E ρ => it ρ fun c ρ1 => (c.ks.any Tk.slot? = false) ∧ gets (c.items ρ1) fun items => items.length ≤ sizeLine → forW g b E items ρ1
theorem rds_fix {ρ ρ' : En S} : ∀ {ks : List Tk}, ks.any Tk.slot? = false → rds ρ ks = rds ρ' ks
  | [], _ => rfl
  | .tmp r :: ks, h => by rw [rds_cons, rds_cons, rds_fix (ρ := ρ) (ρ' := ρ') (ks := ks) (by simpa [Tk.slot?] using h)]; rfl
  | .bt r :: ks, h => by rw [rds_cons, rds_cons, rds_fix (ρ := ρ) (ρ' := ρ') (ks := ks) (by simpa [Tk.slot?] using h)]; rfl
  | .slot r :: ks, h => by simp [Tk.slot?] at h
  | .fb r :: ks, h => by simp [Tk.slot?] at h
theorem noslot {ks : List Tk} (h : ks.any Tk.slot? = false) {j i : Nat} (e : ks[j]? = some (.slot i)) : False := by
  have := List.any_eq_false.mp h (.slot i) (List.mem_of_getElem? e)
  exact this rfl
theorem cs_for {tg iter : Expr} {it : (IW S)} {g : (GW S)} {is : List Nat} {body : List Stmt} (hx : XO X k) (hi : CI (S := S) X tg iter it) (hg : CG (S := S) X tg is g) (hb : CSs (S := S) X body t) (hs : ∀ x, foldedSetIterable iter X.env x = pure x := by intro _; rfl) : CS (S := S) X (.For tg iter body [] pos) (dFor it g t) :=
  ps_mono (ps_for hx.pass hx.calm hi hg hb hs) fun Z σ0 H ⟨B, pa, τ, F, ρ, θ, E, R, hl, h, q⟩ => by
    refine ⟨B, pa, τ, F, ρ, θ, _, R, hl, h, fun c ρ1 us H1 F1 J ⟨hns, h1⟩ hl1 hk R1 s1 src => ?_⟩
    obtain ⟨items, ei, h1⟩ := gets_elim h1
    have hτ : τ.length = θ.length := by have := (R1.pops (by simp [hk])).len; simp at this; omega
    have R1' : Rel X.K B pa (σ0 ++ (τ ++ us.map some)) H1 F1 (ρ1.sl ++ (θ ++ c.ks.map Tk.sl)) ρ1.pn := by simpa only [List.append_assoc] using R1
    obtain ⟨ds0, er, ef⟩ := Option.bind_eq_some_iff.mp ei
    have nos : ∀ (σ : L2.St) (j : Nat) i v, c.ks[j]? = some (.slot i) → us[j]? = some v → σ[i]? = some (some v) := fun σ j i v e _ => (noslot hns e).elim
    have rd0 := reads_all (σ := σ0) hl1 c.ks us τ θ ds0 hτ hk R1' (nos _) er
    obtain ⟨_, hsz⟩ := src.stop H1 F1 ds0 items R1.sz R1.fh rd0 ef
    have h1 := h1 hsz
    refine ⟨fun i m σ Hc => ∃ (ρc : (En S)) (Fc : Hp), Rel X.K B pa (σ ++ (τ ++ us.map some)) Hc Fc (ρc.sl ++ (θ ++ c.ks.map Tk.sl)) ρc.pn ∧ σ.length = σ0.length ∧ ρc.sl.length = σ0.length ∧ i ≤ items.length ∧ m = items.length - i ∧ forW g t E (items.drop i) ρc,
      ⟨items.length, ρ1, F1, R1', rfl, hl1, Nat.zero_le _, rfl, h1⟩, ?_⟩
    rintro i m σ Hc ⟨ρc, Fc, Rc, l1, l2, hi, rfl, hq⟩
    have rd := reads_all (σ := σ) (by omega) c.ks us τ θ ds0 hτ hk Rc (nos _) (by rw [← er]; exact rds_fix hns)
    have drop : ∀ {σ : L2.St} {ρ : (En S)} {H F : Hp}, Rel X.K B pa (σ ++ (τ ++ us.map some)) H F (ρ.sl ++ (θ ++ c.ks.map Tk.sl)) ρ.pn → Rel X.K B pa (σ ++ τ) H F (ρ.sl ++ θ) ρ.pn := fun R => by
      rw [← List.append_assoc, ← List.append_assoc] at R
      exact R.pops (by simp [hk])
    by_cases hlt : i < items.length
    · have ed : items.drop i = items[i] :: items.drop (i + 1) := List.drop_eq_getElem_cons hlt
      rw [ed] at hq
      obtain ⟨go, yl⟩ := src.step Hc Fc ds0 items i items[i] Rc.sz Rc.fh rd ef (List.getElem?_eq_getElem hlt)
      refine .inr ⟨go, fun σ' H' => ∃ (ρc : (En S)) (Fc : Hp), Rel X.K B pa (σ' ++ (τ ++ us.map some)) H' Fc (ρc.sl ++ (θ ++ c.ks.map Tk.sl)) ρc.pn ∧ σ'.length = σ0.length ∧ ρc.sl.length = σ0.length ∧ forW g t E (items.drop (i + 1)) ρc, fun σ' H' ⟨ρc, Fc, a1, a2, a3, a4⟩ => ⟨items.length - (i + 1), by omega, ρc, Fc, a1, a2, a3, hlt, rfl, a4⟩, fun x H' hy => ?_⟩
      obtain ⟨F', hF', R', dx⟩ := Rc.yl (yl x H' hy)
      refine ⟨B, pa, τ ++ us.map some, F', ρc, θ ++ c.ks.map Tk.sl, _, items[i], R', by omega, dx, hq, fun ρ2 σ2 h2 l3 l4 _ R2 => ?_⟩
      refine ⟨B, pa, τ ++ us.map some, F', ρ2, θ ++ c.ks.map Tk.sl, _, R2, by omega, h2, ?_⟩
      have e0 : σ2.length = σ0.length := by omega
      rw [e0]
      exact ⟨fun σ' ρ' H2 F2 a b c R3 => ⟨ρ', F2, R3, b, c, a⟩, fun σ' ρ' H2 F2 a b c R3 => q.nx σ' ρ' H2 F2 a b c (drop R3), fun σ' ρ' H2 F2 a b c R3 => ⟨ρ', F2, R3, b, c, a⟩, q.rt⟩
    · have e : i = items.length := by omega
      subst e
      rw [List.drop_length] at hq
      exact .inl ⟨(src.stop Hc Fc ds0 items Rc.sz Rc.fh rd ef).1, q.nx σ ρc Hc Fc hq l1 l2 (drop Rc)⟩
def Tk.slot1? : Tk → Bool
  | .slot _ => true
  | _ => false
theorem noslot2 {ks : List Tk} (h : ks.any Tk.slot1? = false) {j i : Nat} (e : ks[j]? = some (.slot i)) : False := by
  have := List.any_eq_false.mp h (.slot i) (List.mem_of_getElem? e)
  exact this rfl
/-- a walk over what is looked at again at each turn -/
def forL (c : Sc) (items : List D) (g : (GW S)) (b : (DS S)) (E : (DE S)) : List D → (En S) → Prop
  | [], ρ => c.items ρ = some items ∧ E.nx ρ
  | d :: r, ρ => c.items ρ = some items ∧ g d ρ fun ρ1 => b { nx := forL c items g b E r, rt := E.rt, bk := E.nx, ct := forL c items g b E r } ρ1
def dForL (it : (IW S)) (g : (GW S)) (b : (DS S)) : (DS S) := fun E ρ => it ρ fun c ρ1 => (c.ks.any Tk.slot1? = false) ∧ gets (c.items ρ1) fun items => items.length ≤ sizeLine → forL c items g b E items ρ1
theorem cs_forL {tg iter : Expr} {it : (IW S)} {g : (GW S)} {is : List Nat} {body : List Stmt} (hx : XO X k) (hi : CI (S := S) X tg iter it) (hg : CG (S := S) X tg is g) (hb : CSs (S := S) X body t) (hs : ∀ x, foldedSetIterable iter X.env x = pure x := by intro _; rfl) : CS (S := S) X (.For tg iter body [] pos) (dForL it g t) :=
  ps_mono (ps_for hx.pass hx.calm hi hg hb hs) fun Z σ0 H ⟨B, pa, τ, F, ρ, θ, E, R, hl, h, q⟩ => by
    refine ⟨B, pa, τ, F, ρ, θ, _, R, hl, h, fun c ρ1 us H1 F1 J ⟨hns, h1⟩ hl1 hk R1 s1 src => ?_⟩
    obtain ⟨items, ei, h1⟩ := gets_elim h1
    have hτ : τ.length = θ.length := by have := (R1.pops (by simp [hk])).len; simp at this; omega
    have R1' : Rel X.K B pa (σ0 ++ (τ ++ us.map some)) H1 F1 (ρ1.sl ++ (θ ++ c.ks.map Tk.sl)) ρ1.pn := by simpa only [List.append_assoc] using R1
    obtain ⟨ds0, er, ef⟩ := Option.bind_eq_some_iff.mp ei
    have nos : ∀ (σ : L2.St) (j : Nat) i v, c.ks[j]? = some (.slot i) → us[j]? = some v → σ[i]? = some (some v) := fun σ j i v e _ => (noslot2 hns e).elim
    have rd0 := reads_all (σ := σ0) hl1 c.ks us τ θ ds0 hτ hk R1' (nos _) er
    obtain ⟨_, hsz⟩ := src.stop H1 F1 ds0 items R1.sz R1.fh rd0 ef
    have h1 := h1 hsz
    refine ⟨fun i m σ Hc => ∃ (ρc : (En S)) (Fc : Hp), Rel X.K B pa (σ ++ (τ ++ us.map some)) Hc Fc (ρc.sl ++ (θ ++ c.ks.map Tk.sl)) ρc.pn ∧ σ.length = σ0.length ∧ ρc.sl.length = σ0.length ∧ i ≤ items.length ∧ m = items.length - i ∧ forL c items g t E (items.drop i) ρc,
      ⟨items.length, ρ1, F1, R1', rfl, hl1, Nat.zero_le _, rfl, h1⟩, ?_⟩
    rintro i m σ Hc ⟨ρc, Fc, Rc, l1, l2, hi, rfl, hq⟩
    have live : ∀ {ρ : En S}, c.items ρ = some items → ρ = ρc → ∃ ds, RdDs X.K Hc Fc ds us ∧ c.f ds = some items := fun {ρ} h e => by
      subst e
      obtain ⟨ds, e1, e2⟩ := Option.bind_eq_some_iff.mp h
      exact ⟨ds, reads_all (σ := σ) (by omega) c.ks us τ θ ds hτ hk Rc (nos _) e1, e2⟩
    have drop : ∀ {σ : L2.St} {ρ : (En S)} {H F : Hp}, Rel X.K B pa (σ ++ (τ ++ us.map some)) H F (ρ.sl ++ (θ ++ c.ks.map Tk.sl)) ρ.pn → Rel X.K B pa (σ ++ τ) H F (ρ.sl ++ θ) ρ.pn := fun R => by
      rw [← List.append_assoc, ← List.append_assoc] at R
      exact R.pops (by simp [hk])
    by_cases hlt : i < items.length
    · have ed : items.drop i = items[i] :: items.drop (i + 1) := List.drop_eq_getElem_cons hlt
      rw [ed] at hq
      obtain ⟨hlive, hq⟩ := hq
      obtain ⟨ds, rd, ef⟩ := live hlive rfl
      obtain ⟨go, yl⟩ := src.step Hc Fc ds items i items[i] Rc.sz Rc.fh rd ef (List.getElem?_eq_getElem hlt)
      refine .inr ⟨go, fun σ' H' => ∃ (ρc : (En S)) (Fc : Hp), Rel X.K B pa (σ' ++ (τ ++ us.map some)) H' Fc (ρc.sl ++ (θ ++ c.ks.map Tk.sl)) ρc.pn ∧ σ'.length = σ0.length ∧ ρc.sl.length = σ0.length ∧ forL c items g t E (items.drop (i + 1)) ρc, fun σ' H' ⟨ρc, Fc, a1, a2, a3, a4⟩ => ⟨items.length - (i + 1), by omega, ρc, Fc, a1, a2, a3, hlt, rfl, a4⟩, fun x H' hy => ?_⟩
      obtain ⟨F', hF', R', dx⟩ := Rc.yl (yl x H' hy)
      refine ⟨B, pa, τ ++ us.map some, F', ρc, θ ++ c.ks.map Tk.sl, _, items[i], R', by omega, dx, hq, fun ρ2 σ2 h2 l3 l4 _ R2 => ?_⟩
      refine ⟨B, pa, τ ++ us.map some, F', ρ2, θ ++ c.ks.map Tk.sl, _, R2, by omega, h2, ?_⟩
      have e0 : σ2.length = σ0.length := by omega
      rw [e0]
      exact ⟨fun σ' ρ' H2 F2 a b c R3 => ⟨ρ', F2, R3, b, c, a⟩, fun σ' ρ' H2 F2 a b c R3 => q.nx σ' ρ' H2 F2 a b c (drop R3), fun σ' ρ' H2 F2 a b c R3 => ⟨ρ', F2, R3, b, c, a⟩, q.rt⟩
    · have e : i = items.length := by omega
      subst e
      rw [List.drop_length] at hq
      obtain ⟨hlive, hq⟩ := hq
      obtain ⟨ds, rd, ef⟩ := live hlive rfl
      exact .inl ⟨(src.stop Hc Fc ds items Rc.sz Rc.fh rd ef).1, q.nx σ ρc Hc Fc hq l1 l2 (drop Rc)⟩
/-- while, with a number of turns that is enough -/
def whileW (c : (BW S)) (b : (DS S)) (E : (DE S)) : Nat → (En S) → Prop
  | 0, _ => False
  | n + 1, ρ => c ρ fun v ρ1 => if v = true then b { nx := whileW c b E n, rt := E.rt, bk := E.nx, ct := whileW c b E n } ρ1 else E.nx ρ1
def dWhile (c : (BW S)) (b : (DS S)) : (DS S) := fun E ρ => ∃ n, whileW c b E n ρ
theorem cs_while {body : List Stmt} (hx : XO X k) (hc : CT (S := S) X c tb) (hb : CSs (S := S) X body t) : CS (S := S) X (.While c body [] pos) (dWhile tb t) :=
  ps_mono (ps_while hx.pass hc hb) fun Z σ0 H ⟨B, pa, τ, F, ρ, θ, E, R, hl, ⟨n, h⟩, q⟩ => by
    refine ⟨fun m σ Hc => ∃ (ρc : (En S)) (Fc : Hp), Rel X.K B pa (σ ++ τ) Hc Fc (ρc.sl ++ θ) ρc.pn ∧ σ.length = σ0.length ∧ ρc.sl.length = σ0.length ∧ whileW tb t E m ρc, ⟨n, ρ, F, R, rfl, hl, h⟩, ?_⟩
    rintro m σ Hc ⟨ρc, Fc, Rc, l1, l2, hq⟩
    cases m with
    | zero => exact hq.elim
    | succ m =>
      refine ⟨B, pa, τ, Fc, ρc, θ, _, Rc, by omega, hq, fun b ρ1 H1 F1 h1 l3 R1 => ?_⟩
      cases b with
      | false => exact iteF (q.nx σ ρ1 H1 F1 h1 l1 (by omega) R1)
      | true =>
        refine iteT ⟨fun σ' H' => ∃ (ρc : (En S)) (Fc : Hp), Rel X.K B pa (σ' ++ τ) H' Fc (ρc.sl ++ θ) ρc.pn ∧ σ'.length = σ0.length ∧ ρc.sl.length = σ0.length ∧ whileW tb t E m ρc, fun σ' H' ⟨ρc, Fc, a1, a2, a3, a4⟩ => ⟨m, Nat.lt_succ_self _, ρc, Fc, a1, a2, a3, a4⟩, ?_⟩
        refine ⟨B, pa, τ, F1, ρ1, θ, _, R1, by omega, by simpa using h1, ?_⟩
        rw [l1]
        exact ⟨fun σ' ρ' H2 F2 a b c R3 => ⟨ρ', F2, R3, b, c, a⟩, fun σ' ρ' H2 F2 a b c R3 => q.nx σ' ρ' H2 F2 a b c R3, fun σ' ρ' H2 F2 a b c R3 => ⟨ρ', F2, R3, b, c, a⟩, q.rt⟩
end
end Dk
set_option Elab.async false
set_option linter.all false
set_option maxRecDepth 100000
set_option maxHeartbeats 2000000
/-! Dk, part 6b: several targets, augmented stores, methods of lists. -/
namespace Dk
open PySem PySem.Spec PyProof.Rows L2
variable {S : Type} [StK S]
section
variable {X : Cx} {e a b c : Expr} {es : List Expr} {te : (DW S)} {ta : (AW S)} {pos p p2 : Pos} {k : Nat} {t u : (OW S)}
/-! ### a, b = (x, y): no tuple is seen -/
def tmps : List Tk → Option (List Rs)
  | [] => some []
  | .tmp r :: ks => (tmps ks).map (r :: ·)
  | _ :: _ => none
theorem tmps_eq : ∀ {ks : List Tk} {rs : List Rs}, tmps ks = some rs → ks = rs.map .tmp
  | [], rs, h => by cases h; rfl
  | .tmp r :: ks, rs, h => by
    obtain ⟨rs', h1, rfl⟩ := Option.map_eq_some_iff.mp h
    rw [tmps_eq h1]; rfl
  | .slot _ :: ks, rs, h => by cases h
  | .bt _ :: ks, rs, h => by cases h
def dPar2 (i j : Nat) (ta : (AW S)) : (DS S) := fun E ρ => ta ρ fun ks ρ1 => gets (tmps ks) fun rs => match rs with
  | [r1, r2] => E.nx { ρ1 with sl := (ρ1.sl.set i r1.sl).set j r2.sl }
  | _ => False
theorem par2_step {K : Fg} {i j : Nat} {Z : Ends} {σ : L2.St} {H : Hp} (hij : i ≠ j) (hi : i < σ.length) (hj : j < σ.length) (h : liftS K (dPar2 i j ta) Z σ H) : liftA K ta σ H fun vs H1 => ∃ v w, vs = [v, w] ∧ Z.nx ((σ.set i (some v)).set j (some w)) H1 ∧ ∀ q, H1 q = none → Z.nx ((σ.set i (some v)).set j (some w)) (upd H1 q (.tup [v, w])) := by
  obtain ⟨B, pa, τ, F, ρ, θ, E, R, hl, h, q⟩ := h
  refine ⟨B, pa, τ, F, ρ, θ, _, R, hl, h, fun ks ρ1 vs H1 F1 h1 l1 hk R1 _ => ?_⟩
  obtain ⟨rs, e1, h1⟩ := gets_elim h1
  have e2 := tmps_eq e1
  subst e2
  match rs, vs, h1, hk, R1 with
  | [r1, r2], [v, w], h1, _, R1 =>
    have R2 : Rel K B pa (σ ++ τ ++ [some v] ++ [some w]) H1 F1 (ρ1.sl ++ θ ++ [r1.sl] ++ [r2.sl]) ρ1.pn := by simpa [Tk.sl] using R1
    have fin : ∀ H2, Rel K B pa (σ ++ τ ++ [some v] ++ [some w]) H2 F1 (ρ1.sl ++ θ ++ [r1.sl] ++ [r2.sl]) ρ1.pn → Z.nx ((σ.set i (some v)).set j (some w)) H2 := fun H2 R2 => by
      have R3 := R2.move (i := j) (by simp; omega)
      rw [List.append_assoc σ, List.append_assoc ρ1.sl, List.set_append_left _ _ hj, List.set_append_left _ _ (by omega), ← List.append_assoc, ← List.append_assoc] at R3
      have R4 := R3.move (i := i) (by simp; omega)
      rw [List.set_append_left _ _ (by simpa using hi), List.set_append_left _ _ (by simp; omega), List.set_comm _ _ hij.symm, List.set_comm _ _ hij.symm] at R4
      exact q.nx _ { ρ1 with sl := (ρ1.sl.set i r1.sl).set j r2.sl } H2 F1 h1 (by simp) (by simpa using l1) R4
    exact ⟨v, w, rfl, fin H1 R2, fun q hq => fin _ (R2.grow (le_upd hq) (Le.refl _) (R2.fh.trans (le_upd hq)) (fun b u e => .inl e) (R2.sz.upT (by show 2 ≤ sizeLine; decide)))⟩
theorem cs_par2 (i j : Nat) {x y : Str} {px py pt : Pos} {kt k2 pt2} (hx0 : XO X k) (ha : CA (S := S) X [a, b] ta) (hij : i ≠ j := by decide) (hi : X.N[i]? = some x := by rfl) (hj : X.N[j]? = some y := by rfl)
    (hx : X.env.scope.names.lookup x = some .local := by rfl) (hy : X.env.scope.names.lookup y = some .local := by rfl)
    (hw : swappedStores [.Tuple [.Name x px, .Name y py] kt pt] (.Tuple [a, b] k2 pt2) X.env = pure (some [x, y]) := by rfl)
    (hs : swapsWithSole [.Tuple [.Name x px, .Name y py] kt pt] (.Tuple [a, b] k2 pt2) pos.line X.env = pure false := by rfl) :
    CS (S := S) X (.Assign [.Tuple [.Name x px, .Name y py] kt pt] (.Tuple [a, b] k2 pt2) pos) (dPar2 i j ta) := by
  refine ⟨fun pins s σ H Z I h => ?_⟩
  refine (ps_par hx0.calm hx0.nd hi hj hij hx hy ha hw hs).run pins s σ H Z I ?_
  obtain ⟨B, pa, τ, F, ρ, θ, P, R, hl, h, q⟩ := par2_step hij (by rw [I.len]; exact (List.getElem?_eq_some_iff.mp hi).1) (by rw [I.len]; exact (List.getElem?_eq_some_iff.mp hj).1) h
  refine ⟨B, pa, τ, F, ρ, θ, P, R, hl, h, fun ks ρ1 vs H1 F1 h1 l1 hk R1 s1 => ?_⟩
  obtain ⟨v, w, e, z, _⟩ := q ks ρ1 vs H1 F1 h1 l1 hk R1 s1
  exact ⟨v, w, e, z⟩
/-- the same where a tuple is made on the way (a name of the two is captured) -/
theorem cs_par2t (i j : Nat) {x y : Str} {px py pt : Pos} {kt k2 pt2} (hx0 : XO X k) (ha : CA (S := S) X [a, b] ta) (hij : i ≠ j := by decide) (hi : X.N[i]? = some x := by rfl) (hj : X.N[j]? = some y := by rfl)
    (hx : Loc X.env.scope x := by first | exact .inl rfl | exact .inr rfl) (hy : Loc X.env.scope y := by first | exact .inl rfl | exact .inr rfl)
    (hf : X.fn x = true ∨ X.env.scope.names.lookup x = some .local := by first | exact .inl rfl | exact .inr rfl) (hf2 : X.fn y = true ∨ X.env.scope.names.lookup y = some .local := by first | exact .inl rfl | exact .inr rfl)
    (hs : swapsWithSole [.Tuple [.Name x px, .Name y py] kt pt] (.Tuple [a, b] k2 pt2) pos.line X.env = pure false := by rfl) (hw : swappedStores [.Tuple [.Name x px, .Name y py] kt pt] (.Tuple [a, b] k2 pt2) X.env = pure none := by rfl) :
    CS (S := S) X (.Assign [.Tuple [.Name x px, .Name y py] kt pt] (.Tuple [a, b] k2 pt2) pos) (dPar2 i j ta) := by
  refine ⟨fun pins s σ H Z I h => ?_⟩
  refine (ps_asg (pe_tup ha) (pg_tup hx0.calm (pgs_cons (pg_name hx0.nd hi hx hf) (pgs_cons (pg_name hx0.nd hj hy hf2) pgs_nil))) hs hw).run pins s σ H Z I ?_
  obtain ⟨B, pa, τ, F, ρ, θ, P, R, hl, h, q⟩ := par2_step hij (by rw [I.len]; exact (List.getElem?_eq_some_iff.mp hi).1) (by rw [I.len]; exact (List.getElem?_eq_some_iff.mp hj).1) h
  refine ⟨B, pa, τ, F, ρ, θ, P, R, hl, h, fun ks ρ1 vs H1 F1 h1 l1 hk R1 s1 => ?_⟩
  obtain ⟨v, w, e, _, z⟩ := q ks ρ1 vs H1 F1 h1 l1 hk R1 s1
  subst e
  exact ⟨by show 2 ≤ sizeLine; decide, fun q hq => ⟨q, [v, w], rfl, .inl (.inl upd_same), rfl, v, [w], rfl, w, [], rfl, rfl, z q hq⟩⟩
def dPar3 (i j l : Nat) (ta : (AW S)) : (DS S) := fun E ρ => ta ρ fun ks ρ1 => gets (tmps ks) fun rs => match rs with
  | [r1, r2, r3] => E.nx { ρ1 with sl := ((ρ1.sl.set i r1.sl).set j r2.sl).set l r3.sl }
  | _ => False
theorem par3_step {K : Fg} {i j l : Nat} {Z : Ends} {σ : L2.St} {H : Hp} (hij : i ≠ j) (hil : i ≠ l) (hjl : j ≠ l) (hi : i < σ.length) (hj : j < σ.length) (hl' : l < σ.length) (h : liftS K (dPar3 i j l ta) Z σ H) :
    liftA K ta σ H fun vs H1 => ∃ v w x, vs = [v, w, x] ∧ Z.nx (((σ.set i (some v)).set j (some w)).set l (some x)) H1 ∧ ∀ q, H1 q = none → Z.nx (((σ.set i (some v)).set j (some w)).set l (some x)) (upd H1 q (.tup [v, w, x])) := by
  obtain ⟨B, pa, τ, F, ρ, θ, E, R, hl, h, q⟩ := h
  refine ⟨B, pa, τ, F, ρ, θ, _, R, hl, h, fun ks ρ1 vs H1 F1 h1 l1 hk R1 _ => ?_⟩
  obtain ⟨rs, e1, h1⟩ := gets_elim h1
  have e2 := tmps_eq e1
  subst e2
  match rs, vs, h1, hk, R1 with
  | [r1, r2, r3], [v, w, x], h1, _, R1 =>
    have R2 : Rel K B pa (σ ++ τ ++ [some v] ++ [some w] ++ [some x]) H1 F1 (ρ1.sl ++ θ ++ [r1.sl] ++ [r2.sl] ++ [r3.sl]) ρ1.pn := by simpa [Tk.sl] using R1
    have fin : ∀ H2, Rel K B pa (σ ++ τ ++ [some v] ++ [some w] ++ [some x]) H2 F1 (ρ1.sl ++ θ ++ [r1.sl] ++ [r2.sl] ++ [r3.sl]) ρ1.pn → Z.nx (((σ.set i (some v)).set j (some w)).set l (some x)) H2 := fun H2 R2 => by
      have R3 := R2.move (i := l) (by simp; omega)
      rw [List.append_assoc, List.append_assoc σ, List.append_assoc, List.append_assoc ρ1.sl, List.set_append_left _ _ hl', List.set_append_left _ _ (by omega), ← List.append_assoc, ← List.append_assoc, ← List.append_assoc, ← List.append_assoc] at R3
      have R4 := R3.move (i := j) (by simp; omega)
      rw [List.append_assoc, List.append_assoc (ρ1.sl.set l r3.sl), List.set_append_left _ _ (by simpa using hj), List.set_append_left _ _ (by simp; omega), ← List.append_assoc, ← List.append_assoc] at R4
      have R5 := R4.move (i := i) (by simp; omega)
      rw [List.set_append_left _ _ (by simpa using hi), List.set_append_left _ _ (by simp; omega)] at R5
      have es : ∀ {α : Type} (m : List α) (x y z : α), ((m.set l z).set j y).set i x = ((m.set i x).set j y).set l z := fun m x y z => by
        rw [List.set_comm (l := m) z y hjl.symm, List.set_comm (l := m.set j y) z x hil.symm, List.set_comm (l := m) y x hij.symm]
      rw [es, es] at R5
      exact q.nx _ { ρ1 with sl := ((ρ1.sl.set i r1.sl).set j r2.sl).set l r3.sl } H2 F1 h1 (by simp) (by simpa using l1) R5
    exact ⟨v, w, x, rfl, fin H1 R2, fun q hq => fin _ (R2.grow (le_upd hq) (Le.refl _) (R2.fh.trans (le_upd hq)) (fun b u e => .inl e) (R2.sz.upT (by show 3 ≤ sizeLine; decide)))⟩
theorem cs_par3 (i j l : Nat) {x y z : Str} {px py pz pt : Pos} {kt k2 pt2} (hx0 : XO X k) (ha : CA (S := S) X [a, b, c] ta) (hij : i ≠ j := by decide) (hil : i ≠ l := by decide) (hjl : j ≠ l := by decide) (hi : X.N[i]? = some x := by rfl) (hj : X.N[j]? = some y := by rfl) (hl : X.N[l]? = some z := by rfl)
    (hx : X.env.scope.names.lookup x = some .local := by rfl) (hy : X.env.scope.names.lookup y = some .local := by rfl) (hz : X.env.scope.names.lookup z = some .local := by rfl)
    (hw : swappedStores [.Tuple [.Name x px, .Name y py, .Name z pz] kt pt] (.Tuple [a, b, c] k2 pt2) X.env = pure (some [x, y, z]) := by rfl)
    (hs : swapsWithSole [.Tuple [.Name x px, .Name y py, .Name z pz] kt pt] (.Tuple [a, b, c] k2 pt2) pos.line X.env = pure false := by rfl) :
    CS (S := S) X (.Assign [.Tuple [.Name x px, .Name y py, .Name z pz] kt pt] (.Tuple [a, b, c] k2 pt2) pos) (dPar3 i j l ta) := by
  refine ⟨fun pins s σ H Z I h => ?_⟩
  refine (ps_par3 hx0.calm hx0.nd hi hj hl hij hil hjl hx hy hz ha hw hs).run pins s σ H Z I ?_
  obtain ⟨B, pa, τ, F, ρ, θ, P, R, hl, h, q⟩ := par3_step hij hil hjl (by rw [I.len]; exact (List.getElem?_eq_some_iff.mp hi).1) (by rw [I.len]; exact (List.getElem?_eq_some_iff.mp hj).1) (by rw [I.len]; exact (List.getElem?_eq_some_iff.mp hl).1) h
  refine ⟨B, pa, τ, F, ρ, θ, P, R, hl, h, fun ks ρ1 vs H1 F1 h1 l1 hk R1 s1 => ?_⟩
  obtain ⟨v, w, x, e, z, _⟩ := q ks ρ1 vs H1 F1 h1 l1 hk R1 s1
  exact ⟨v, w, x, e, z⟩
theorem cs_par3t (i j l : Nat) {x y z : Str} {px py pz pt : Pos} {kt k2 pt2} (hx0 : XO X k) (ha : CA (S := S) X [a, b, c] ta) (hij : i ≠ j := by decide) (hil : i ≠ l := by decide) (hjl : j ≠ l := by decide) (hi : X.N[i]? = some x := by rfl) (hj : X.N[j]? = some y := by rfl) (hl : X.N[l]? = some z := by rfl)
    (hx : Loc X.env.scope x := by first | exact .inl rfl | exact .inr rfl) (hy : Loc X.env.scope y := by first | exact .inl rfl | exact .inr rfl) (hz : Loc X.env.scope z := by first | exact .inl rfl | exact .inr rfl)
    (hf : X.fn x = true ∨ X.env.scope.names.lookup x = some .local := by first | exact .inl rfl | exact .inr rfl) (hf2 : X.fn y = true ∨ X.env.scope.names.lookup y = some .local := by first | exact .inl rfl | exact .inr rfl) (hf3 : X.fn z = true ∨ X.env.scope.names.lookup z = some .local := by first | exact .inl rfl | exact .inr rfl)
    (hs : swapsWithSole [.Tuple [.Name x px, .Name y py, .Name z pz] kt pt] (.Tuple [a, b, c] k2 pt2) pos.line X.env = pure false := by rfl) (hw : swappedStores [.Tuple [.Name x px, .Name y py, .Name z pz] kt pt] (.Tuple [a, b, c] k2 pt2) X.env = pure none := by rfl) :
    CS (S := S) X (.Assign [.Tuple [.Name x px, .Name y py, .Name z pz] kt pt] (.Tuple [a, b, c] k2 pt2) pos) (dPar3 i j l ta) := by
  refine ⟨fun pins s σ H Z I h => ?_⟩
  refine (ps_asg (pe_tup ha) (pg_tup hx0.calm (pgs_cons (pg_name hx0.nd hi hx hf) (pgs_cons (pg_name hx0.nd hj hy hf2) (pgs_cons (pg_name hx0.nd hl hz hf3) pgs_nil)))) hs hw).run pins s σ H Z I ?_
  obtain ⟨B, pa, τ, F, ρ, θ, P, R, hl, h, q⟩ := par3_step hij hil hjl (by rw [I.len]; exact (List.getElem?_eq_some_iff.mp hi).1) (by rw [I.len]; exact (List.getElem?_eq_some_iff.mp hj).1) (by rw [I.len]; exact (List.getElem?_eq_some_iff.mp hl).1) h
  refine ⟨B, pa, τ, F, ρ, θ, P, R, hl, h, fun ks ρ1 vs H1 F1 h1 l1 hk R1 s1 => ?_⟩
  obtain ⟨v, w, x, e, _, z⟩ := q ks ρ1 vs H1 F1 h1 l1 hk R1 s1
  subst e
  exact ⟨by show 3 ≤ sizeLine; decide, fun q hq => ⟨q, [v, w, x], rfl, .inl (.inl upd_same), rfl, v, [w, x], rfl, w, [x], rfl, x, [], rfl, rfl, z q hq⟩⟩
/-! ### x += e, x -= e (ints) -/
def dAug (i : Nat) (f : Int → Int → Int) (t : (DW S)) : (DS S) := fun E ρ => gets (((ρ.sl[i]?).bind Sl.rd).bind D.int?) fun a => t ρ fun r ρ1 => gets (D.int? r.d) fun b => E.nx { ρ1 with sl := ρ1.sl.set i (.val (.int (f a b))) }
theorem cs_aug (i : Nat) {x : Str} {op : Operator} {f : Int → Int → Int} {p' : Pos} (hx0 : XO X k) (ho : PIp X op (ipI f)) (he : CE (S := S) X e te) (hi : X.N[i]? = some x := by rfl) (hx : Loc X.env.scope x := by first | exact .inl rfl | exact .inr rfl)
    (hf : X.fn x = true ∨ X.env.scope.names.lookup x = some .local := by first | exact .inl rfl | exact .inr rfl) : CS (S := S) X (.AugAssign (.Name x p') op e pos) (dAug i f te) := by
  refine ⟨fun pins s σ H Z I h => ?_⟩
  refine (ps_aug hx0.nd hi hx he ho hf).run pins s σ H Z I ?_
  have hil : i < σ.length := by rw [I.len]; exact (List.getElem?_eq_some_iff.mp hi).1
  obtain ⟨B, pa, τ, F, ρ, θ, E, R, hl, h, q⟩ := h
  obtain ⟨n, e1, h⟩ := gets_elim h
  obtain ⟨d, e2, e3⟩ := Option.bind_eq_some_iff.mp e1
  have e4 := D.int?_some e3
  subst e4
  obtain ⟨s0, e5, e6⟩ := Option.bind_eq_some_iff.mp e2
  obtain ⟨o, z1, z2⟩ := R.sl i s0 (by rw [List.getElem?_append_left (by omega)]; exact e5)
  have z3 := left_get hil z1
  have hv : o = some (.int n) := by
    cases s0 with
    | val d0 => cases e6; obtain ⟨v, rfl, hd⟩ := z2; rw [DR.int_.mp hd]
    | own _ => cases e6
    | bor _ => cases e6
    | un => cases e6
    | pen => cases e6
    | scr ns => cases e6
    | ref a => cases e6
  subst hv
  refine ⟨.int n, z3, ofE ⟨B, pa, τ, F, ρ, θ, _, R, hl, h, fun r ρ1 v H1 F1 h1 l1 R1 => ?_⟩⟩
  obtain ⟨m, f1, h1⟩ := gets_elim h1
  have f2 := D.int?_some f1
  obtain ⟨F2, _, R2⟩ := freezeLast R1
  obtain ⟨⟨v', e', hd⟩, _⟩ := Rel.last (s := .val r.d) R2
  cases e'
  rw [f2] at hd
  have ev := DR.int_.mp hd
  have R3 := (R2.pop.pushVal (d := .int (f n m)) (v := .int (f n m)) (DR.int_.mpr rfl)).move (i := i) (by simp; omega)
  rw [List.set_append_left _ _ hil, List.set_append_left _ _ (by omega)] at R3
  exact ⟨n, m, rfl, ev, q.nx _ { ρ1 with sl := ρ1.sl.set i (.val (.int (f n m))) } H1 F2 h1 (by simp) (by simpa using l1) R3⟩
end
end Dk
set_option Elab.async false
set_option linter.all false
set_option maxRecDepth 100000
set_option maxHeartbeats 2000000
/-! Dk, part 6c: methods of an owned list, stores to its places. -/
namespace Dk
open PySem PySem.Spec PyProof.Rows L2
variable {S : Type} [StK S]
def own? (ρ : List Sl) (i : Nat) : Option (List D) := match ρ[i]? with
  | some (.own xs) => some xs
  | _ => none
theorem own?_some {ρ : List Sl} {i : Nat} {xs : List D} (h : own? ρ i = some xs) : ρ[i]? = some (.own xs) := by
  unfold own? at h
  split at h
  · cases h; assumption
  · cases h
section
variable {X : Cx} {e a b c : Expr} {es : List Expr} {te : (DW S)} {ta : (AW S)} {pos p p1 p2 : Pos} {k : Nat} {t u : (OW S)}
/-- what an owned slot is -/
theorem own_at {K : Fg} {B : Bs} {pa : Option Addr} {σ : L2.St} {τ : List (Option V)} {H F : Hp} {ρ θ : List Sl} {pn : S} {i : Nat} {xs : List D} (R : Rel K B pa (σ ++ τ) H F (ρ ++ θ) pn) (hl : ρ.length = σ.length) (h : own? ρ i = some xs) :
    ∃ a vs, σ[i]? = some (some (.ref a)) ∧ (σ ++ τ)[i]? = some (some (.ref a)) ∧ (ρ ++ θ)[i]? = some (.own xs) ∧ H a = some (.lst vs) ∧ DRs K F xs vs ∧ i < σ.length := by
  have h := own?_some h
  have hi := (List.getElem?_eq_some_iff.mp h).1
  have hw : (ρ ++ θ)[i]? = some (.own xs) := by rw [List.getElem?_append_left hi]; exact h
  obtain ⟨o, h1, a, vs, e, h2, h3, _⟩ := R.sl i _ hw
  subst e
  exact ⟨a, vs, left_get (by omega) h1, h1, hw, h2, h3, by omega⟩
theorem Rel.writeS {K : Fg} {B : Bs} {pa : Option Addr} {σ : L2.St} {τ : List (Option V)} {H F : Hp} {ρ θ : List Sl} {pn : S} {i : Nat} {xs ys : List D} {a : Addr} {vs : List V} (R : Rel K B pa (σ ++ τ) H F (ρ ++ θ) pn) (hw : (ρ ++ θ)[i]? = some (.own xs)) (hz : (σ ++ τ)[i]? = some (some (.ref a)))
    (hi : i < ρ.length) (h : DRs K F ys vs) (hs : vs.length ≤ sizeLine) : Rel K B pa (σ ++ τ) (upd H a (.lst vs)) F (ρ.set i (.own ys) ++ θ) pn := by
  have R1 := R.write hw hz h hs
  rwa [List.set_append_left _ _ hi] at R1
/-! xs.append(e) -/
def dAppend (i : Nat) (t : (OW S)) : (DW S) := fun ρ P => (own? ρ.sl i).isSome = true ∧ t ρ fun k ρ1 => gets k.valD fun d => gets (own? ρ1.sl i) fun xs => xs.length < sizeLine ∧ P (.val .none) { ρ1 with sl := ρ1.sl.set i (.own (xs ++ [d])) }
theorem ce_append (i : Nat) {x : Str} {apos : Pos} (ha : CO (S := S) X a t) (hN : X.N[i]? = some x := by rfl) (hv : Vis X.env.scope x := by first | exact Or.inl rfl | exact Or.inr (Or.inl rfl) | exact Or.inr (Or.inr rfl)) (hd : (x == ("__debug__" : Str)) = false := by decide) (hcd : (x == ("__classdict__" : Str)) = false := by decide)
    (hbase : attributeBase (.Name x p1) "append" X.env (eval (.Name x p1) X.env) = eval (.Name x p1) X.env := by rfl)
    (hfew : ((backTo pos (starEach [a] X.env)).all (fun x => !x.1) && (backToKw pos (keywordEach [] X.env)).all (fun x => x.1.isSome) && decide ([a].length + ([] : List Keyword).length + (if ([] : List Keyword).isEmpty then 0 else 1) < 30)) = true := by rfl)
    (hline : (apos.endLine == pos.line) = true := by rfl) (hs : starEach [a] X.env = (false, eval a X.env) :: starEach [] X.env := by rfl) (hplain : (backTo pos (starEach [] X.env)).any (·.1) = false := by rfl) :
    CE (S := S) X (.Call (.Attribute (.Name x p1) "append" apos) [a] [] pos) (dAppend i t) :=
  pe_mono (pe_bm PySem.F.plainAttrs_list PySem.F.slot_list_append PySem.F.type_list_append mt_append (pe_var hN hv hd hcd) (pa_cons ha pa_nil hs) hbase hfew hline hs hplain) fun σ H Q h => by
    obtain ⟨B, pa, τ, F, ρ, θ, P, R, hl, ⟨h0, h⟩, q⟩ := toE h
    obtain ⟨xs0, e0⟩ := Option.isSome_iff_exists.mp h0
    obtain ⟨a0, vs0, s0, _, _, s1, _⟩ := own_at R hl e0
    refine ⟨.ref a0, s0, .inl ⟨rfl, vs0, .inl (.inl s1)⟩, ?_⟩
    refine ⟨B, pa, τ, F, ρ, θ, _, R, hl, h, fun k ρ1 v H1 F1 h1 l1 R1 _ => ?_⟩
    have h1 : gets k.valD fun d => gets (own? ρ1.sl i) fun xs => xs.length < sizeLine ∧ P (.val .none) { ρ1 with sl := ρ1.sl.set i (.own (xs ++ [d])) } := h1
    obtain ⟨d, ek, h2⟩ := gets_elim h1
    clear h1
    have ek := valD_some ek
    subst ek
    obtain ⟨xs, ex, h3⟩ := gets_elim h2
    obtain ⟨hz, h1⟩ := h3
    obtain ⟨⟨v', e', hd⟩, _⟩ := Rel.last (s := .val d) R1
    cases e'
    obtain ⟨a1, vs, q0, q1, q2, q3, q4, q5⟩ := own_at R1.pop l1 ex
    rw [s0] at q0
    cases q0
    refine ⟨a0, vs, v, rfl, rfl, q3, by rw [q4.len]; exact hz, ?_⟩
    have R2 := R1.pop.writeS (ys := xs ++ [d]) (vs := vs ++ [v]) q2 q1 (by omega) (q4.append (.cons hd .nil)) (by simp [q4.len]; omega)
    exact q (.val .none) { ρ1 with sl := ρ1.sl.set i (.own (xs ++ [d])) } .non _ F1 h1 (by simpa using l1) (R2.pushVal (DR.non_.mpr rfl))
/-! xs.pop(), xs.pop(i) -/
def dPop (i : Nat) : (DW S) := fun ρ P => gets (own? ρ.sl i) fun xs => gets (xs[xs.length - 1]?) fun d => P (.val d) { ρ with sl := ρ.sl.set i (.own xs.dropLast) }
theorem DRs.dropLast {K : Fg} {F : Hp} {ds : List D} {vs : List V} (h : DRs K F ds vs) : DRs K F ds.dropLast vs.dropLast := by
  rw [List.dropLast_eq_take, List.dropLast_eq_take, h.len]
  exact h.take _
theorem ce_pop (i : Nat) {x : Str} {apos : Pos} (hN : X.N[i]? = some x := by rfl) (hv : Vis X.env.scope x := by first | exact Or.inl rfl | exact Or.inr (Or.inl rfl) | exact Or.inr (Or.inr rfl)) (hd : (x == ("__debug__" : Str)) = false := by decide) (hcd : (x == ("__classdict__" : Str)) = false := by decide)
    (hbase : attributeBase (.Name x p1) "pop" X.env (eval (.Name x p1) X.env) = eval (.Name x p1) X.env := by rfl) (hline : (apos.endLine == pos.line) = true := by rfl) : CE (S := S) X (.Call (.Attribute (.Name x p1) "pop" apos) [] [] pos) (dPop i) :=
  pe_mono (pe_bm0 PySem.F.plainAttrs_list PySem.F.slot_list_pop PySem.F.type_list_pop mt_pop (pe_var hN hv hd hcd) hbase hline) fun σ H Q h => by
    obtain ⟨B, pa, τ, F, ρ, θ, P, R, hl, h, q⟩ := toE h
    obtain ⟨xs, ex, h⟩ := gets_elim h
    obtain ⟨d, ed, h⟩ := gets_elim h
    obtain ⟨a0, vs, q0, q1, q2, q3, q4, q5⟩ := own_at R hl ex
    obtain ⟨v, g1, g2⟩ := q4.get ed
    refine ⟨.ref a0, q0, .inl ⟨rfl, vs, .inl (.inl q3)⟩, a0, vs, v, rfl, rfl, q3, by rw [q4.len]; exact g1, ?_⟩
    have R2 := R.writeS (ys := xs.dropLast) (vs := vs.dropLast) q2 q1 (by omega) q4.dropLast (by have := R.sz.l q3; simp; omega)
    exact q (.val d) { ρ with sl := ρ.sl.set i (.own xs.dropLast) } v _ F h (by simpa using hl) (R2.pushVal g2)
def dPopAt (i : Nat) (t : (OW S)) : (DW S) := fun ρ P => (own? ρ.sl i).isSome = true ∧ t ρ fun k ρ1 => gets ((k.rd ρ1).bind D.int?) fun z => gets (own? ρ1.sl i) fun xs => gets (ixN xs.length z) fun j => gets xs[j]? fun d => P (.val d) { ρ1 with sl := ρ1.sl.set i (.own (xs.eraseIdx j)) }
theorem ce_popAt (i : Nat) {x : Str} {apos : Pos} (ha : CO (S := S) X a t) (hN : X.N[i]? = some x := by rfl) (hv : Vis X.env.scope x := by first | exact Or.inl rfl | exact Or.inr (Or.inl rfl) | exact Or.inr (Or.inr rfl)) (hd : (x == ("__debug__" : Str)) = false := by decide) (hcd : (x == ("__classdict__" : Str)) = false := by decide)
    (hbase : attributeBase (.Name x p1) "pop" X.env (eval (.Name x p1) X.env) = eval (.Name x p1) X.env := by rfl)
    (hfew : ((backTo pos (starEach [a] X.env)).all (fun x => !x.1) && (backToKw pos (keywordEach [] X.env)).all (fun x => x.1.isSome) && decide ([a].length + ([] : List Keyword).length + (if ([] : List Keyword).isEmpty then 0 else 1) < 30)) = true := by rfl)
    (hline : (apos.endLine == pos.line) = true := by rfl) (hs : starEach [a] X.env = (false, eval a X.env) :: starEach [] X.env := by rfl) (hplain : (backTo pos (starEach [] X.env)).any (·.1) = false := by rfl) :
    CE (S := S) X (.Call (.Attribute (.Name x p1) "pop" apos) [a] [] pos) (dPopAt i t) :=
  pe_mono (pe_bm PySem.F.plainAttrs_list PySem.F.slot_list_pop PySem.F.type_list_pop mt_popAt (pe_var hN hv hd hcd) (pa_cons ha pa_nil hs) hbase hfew hline hs hplain) fun σ H Q h => by
    obtain ⟨B, pa, τ, F, ρ, θ, P, R, hl, ⟨h0, h⟩, q⟩ := toE h
    obtain ⟨xs0, e0⟩ := Option.isSome_iff_exists.mp h0
    obtain ⟨a0, vs0, s0, _, _, s1, _⟩ := own_at R hl e0
    refine ⟨.ref a0, s0, .inl ⟨rfl, vs0, .inl (.inl s1)⟩, ?_⟩
    refine ⟨B, pa, τ, F, ρ, θ, _, R, hl, h, fun k ρ1 v H1 F1 h1 l1 R1 sk => ?_⟩
    obtain ⟨z, ez, h1⟩ := gets_elim h1
    obtain ⟨d0, f1, f2⟩ := Option.bind_eq_some_iff.mp ez
    have f3 := D.int?_some f2
    subst f3
    obtain ⟨xs, ex, h1⟩ := gets_elim h1
    obtain ⟨j, ej, h1⟩ := gets_elim h1
    obtain ⟨d, ed, h1⟩ := gets_elim h1
    have hτ : τ.length = θ.length := by have := R1.pop.len; simp at this; omega
    have R1b : Rel X.K B pa (σ ++ (τ ++ [some v])) H1 F1 (ρ1.sl ++ (θ ++ [k.sl])) ρ1.pn := by simpa only [List.append_assoc] using R1
    have rd := read_at R1b l1 τ.length (app_last _ _) (getN hτ.symm) sk f1
    obtain ⟨a1, vs, q0, q1, q2, q3, q4, q5⟩ := own_at R1.pop l1 ex
    rw [s0] at q0
    cases q0
    obtain ⟨w, g1, g2⟩ := q4.get ed
    obtain ⟨k1, k2, k3, k4⟩ := ixN_seq ej
    have hz := R1.sz.l q3
    have hsz : sizeLine = 16777216 := sizeLine_eq
    rw [q4.len] at hz
    refine ⟨a0, vs, z, j, w, rfl, by rw [rd.int], q3, by omega, by omega, by rw [q4.len]; exact k1, g1, ?_⟩
    have R2 := R1.pop.writeS (ys := xs.eraseIdx j) (vs := vs.eraseIdx j) q2 q1 (by omega) (q4.eraseIdx j) (by have := R1.sz.l q3; have := len_erase vs j; omega)
    exact q (.val d) { ρ1 with sl := ρ1.sl.set i (.own (xs.eraseIdx j)) } w _ F1 h1 (by simpa using l1) (R2.pushVal g2)
/-! xs[i] = e -/
def dSetIx (i : Nat) (ti : (OW S)) (te : (DW S)) : (DS S) := fun E ρ => te ρ fun r ρ1 => (own? ρ1.sl i).isSome = true ∧ ti ρ1 fun k ρ2 => gets ((k.rd ρ2).bind D.int?) fun z => gets (own? ρ2.sl i) fun xs => gets (ixN xs.length z) fun j => E.nx { ρ2 with sl := ρ2.sl.set i (.own (xs.set j r.d)) }
theorem cs_setIx (i : Nat) {x : Str} {b : Expr} (hb : CO (S := S) X b u) (he : CE (S := S) X e te) (hN : X.N[i]? = some x := by rfl) (hv : Vis X.env.scope x := by first | exact Or.inl rfl | exact Or.inr (Or.inl rfl) | exact Or.inr (Or.inr rfl)) (hd : (x == ("__debug__" : Str)) = false := by decide) (hcd : (x == ("__classdict__" : Str)) = false := by decide)
    (hA : ∀ v, assign (.Subscript (.Name x p1) b p2) X.env v = (do
      let ov ← holding [v] (eval (.Name x p1) X.env)
      let iv ← holding [v, ov] (eval b X.env)
      standAt p2
      holding [v, ov, iv] (setItem ov iv v)
      release [v, ov, iv] []) := by intro _; rfl)
    (hs : swapsWithSole [.Subscript (.Name x p1) b p2] e pos.line X.env = pure false := by rfl) (hw : swappedStores [.Subscript (.Name x p1) b p2] e X.env = pure none := by rfl) (hq : (assignEach [.Subscript (.Name x p1) b p2] X.env).map (·.2) = [assign (.Subscript (.Name x p1) b p2) X.env] := by rfl) :
    CS (S := S) X (.Assign [.Subscript (.Name x p1) b p2] e pos) (dSetIx i u te) :=
  ps_mono (ps_asg he (pg_sub (pe_var hN hv hd hcd) hb set_list hA) hs hw hq) fun Z σ H ⟨B, pa, τ, F, ρ, θ, E, R, hl, h, q⟩ =>
    ofE ⟨B, pa, τ, F, ρ, θ, _, R, hl, h, fun r ρ1 v H1 F1 h1 l1 R1 => by
      obtain ⟨F2, _, R2⟩ := freezeLast R1
      obtain ⟨h0, h1⟩ := h1
      obtain ⟨xs0, e0⟩ := Option.isSome_iff_exists.mp h0
      obtain ⟨a0, vs0, s0, _, _, s1, _⟩ := own_at R2.pop l1 e0
      refine ⟨.ref a0, s0, B, pa, τ ++ [some v], F2, ρ1, θ ++ [.val r.d], _, by simpa only [List.append_assoc] using R2, l1, h1, fun k ρ2 v2 H2 F3 h2 l2 R3 sk => ?_⟩
      obtain ⟨z, ez, h2⟩ := gets_elim h2
      obtain ⟨d0, f1, f2⟩ := Option.bind_eq_some_iff.mp ez
      have f3 := D.int?_some f2
      subst f3
      obtain ⟨xs, ex, h2⟩ := gets_elim h2
      obtain ⟨j, ej, h2⟩ := gets_elim h2
      have R4 : Rel X.K B pa (σ ++ τ ++ [some v] ++ [some v2]) H2 F3 (ρ2.sl ++ θ ++ [.val r.d] ++ [k.sl]) ρ2.pn := by simpa only [List.append_assoc] using R3
      have hτ : τ.length = θ.length := by have := R4.pop.pop.len; simp at this; omega
      have R5 : Rel X.K B pa (σ ++ (τ ++ [some v] ++ [some v2])) H2 F3 (ρ2.sl ++ (θ ++ [.val r.d] ++ [k.sl])) ρ2.pn := by simpa only [List.append_assoc] using R3
      have rd := read_at R5 l2 (τ ++ [some v]).length (app_last _ _) (getN (by simp [hτ])) sk f1
      obtain ⟨⟨v', e', hd⟩, _⟩ := Rel.last (s := .val r.d) R4.pop
      cases e'
      obtain ⟨a1, vs, q0, q1, q2, q3, q4, q5⟩ := own_at R4.pop.pop l2 ex
      rw [s0] at q0
      cases q0
      refine ⟨a0, vs, z, j, rfl, rd.int, q3, by rw [q4.len]; exact ej, ?_⟩
      have R6 := R4.pop.pop.writeS (ys := xs.set j r.d) (vs := vs.set j v) q2 q1 (by omega) (q4.set j hd) (by have := R4.sz.l q3; simpa using this)
      exact q.nx σ { ρ2 with sl := ρ2.sl.set i (.own (xs.set j r.d)) } _ F3 h2 rfl (by simpa using l2) R6⟩
end
end Dk
set_option Elab.async false
set_option linter.all false
set_option maxRecDepth 100000
set_option maxHeartbeats 2000000
/-! Dk, part 7: defs: promises over data, calls. -/
namespace Dk
open PySem PySem.Spec PyProof.Rows L2
variable {S : Type} [StK S]
/-- FnOk where no repr is under way -/
structure FnG (P : Program) (w : World) (K : Fg) (mg : Str → Option Value) (base : Heap) (CX : CXT) (k : Nat) (f : Addr) (fd : FuncData) (ps : List Str) (sp : Sp) : Prop where
  len : ∀ vs H Q E, sp vs H Q E → vs.length = ps.length
  run : ∀ (A : Around) (outer : List Env) (s : Shared) (H : Hp) (args : Args) (us : List Value) (vs : List V) (Q : VK) (E : XK), Room k A → A.guards = some [] → Env0 P w K mg base A outer s H → BindsTo s fd args (ps.zip us) → Vals vs us → sp vs H Q E →
    codeAny (model P w) A (.call (.ref f) args) (CR CX outer P w H s Q E) s
theorem FnG.mono {P : Program} {w : World} {K : Fg} {mg : Str → Option Value} {base : Heap} {CX : CXT} {j k : Nat} {f : Addr} {fd : FuncData} {ps : List Str} {sp : Sp} (F : FnG P w K mg base CX j f fd ps sp) (h : j ≤ k) :
    FnG P w K mg base CX k f fd ps sp := ⟨F.len, fun A outer s H args us vs Q E hr => F.run A outer s H args us vs Q E (hr.mono h)⟩
theorem FnG.of {P : Program} {w : World} {K : Fg} {mg : Str → Option Value} {base : Heap} {CX : CXT} {k : Nat} {f : Addr} {fd : FuncData} {ps : List Str} {sp : Sp} (F : FnOk P w K mg base CX k f fd ps sp) : FnG P w K mg base CX k f fd ps sp :=
  ⟨F.len, fun A outer s H args us vs Q E hr _ => F.run A outer s H args us vs Q E hr⟩
section
variable {X : Cx} {CX : CXT} {k : Nat} {f : Addr} {fd : FuncData} {ps : List Str} {sp : Sp} {dvs : List V} {ds : List Value} {E : XK} {x : Str} {p pos : Pos} {e : Expr} {es : List Expr} {t : TA}
theorem run_fng {pins : List (Addr × Obj)} {σ : L2.St} {H : Hp} {s : Shared} {Q : VK} {us : List Value} {vs : List V} (F : FnG X.prog X.w X.K X.mg X.base CX k f fd ps sp) (hr : Room k X.A) (hg : X.A.guards = some []) (hb : Binds X.K fd ps ds) (hd : Vals dvs ds) (hx : Passes CX X E)
    (I : L2.Inv X pins σ H s) (r : Vals vs us) (h : sp (vs ++ dvs) H Q E) : wpAny (model X.prog X.w) X.A (call (.ref f) us) (EP X pins σ Q) X.xe s := by
  have r2 : Vals (vs ++ dvs) (us ++ ds) := r.append hd
  have hl : (us ++ ds).length = ps.length := by rw [← r2.length]; exact F.len _ _ _ _ h
  refine wpAny_call (codeAny_mono (F.run X.A X.stack s H ⟨us, []⟩ (us ++ ds) (vs ++ dvs) Q E hr hg I.env0 (hb s us I.kIn hl) r2 h) fun r s' hq => ?_)
  cases r with
  | error e => exact hx pins σ H s e s' I hq
  | ok fl =>
    cases fl with
    | ret u => exact I.after hq
    | next => exact False.elim hq
    | brk => exact False.elim hq
    | cont => exact False.elim hq
theorem pe_callG (F : FnG X.prog X.w X.K X.mg X.base CX k f fd ps sp) (hr : Room k X.A) (hgd : X.A.guards = some []) (hg : Gl X x) (hm : X.mg x = some (.ref f)) (hk : PySem.W.keepIn X.K (.ref f) = true) (hb : Binds X.K fd ps ds) (hd : Vals dvs ds) (hx : Passes CX X E)
    (ha : PA X (e :: es) t) (hdb : (x == ("__debug__" : Str)) = false := by decide) (he : starEach (e :: es) X.env = (false, eval e X.env) :: starEach es X.env := by rfl) (hpl : (backTo pos (starEach es X.env)).any (·.1) = false := by rfl) :
    PE X (.Call (.Name x p) (e :: es) [] pos) (tCall sp dvs E t) := by
  refine ⟨fun pins s σ H Q I h => ?_⟩
  refine wpAny_Call_Name_kw (ld_glob I hg hm ?_ hdb)
  refine PySem.W.callWith_K (h₀ := X.base) I.ok.mod.kin hk (thn (ha.run pos pins s σ H _ I h) fun us s1 ⟨vs, H1, I1, r, q⟩ => ⟨I1.kIn, ?_⟩) he hpl
  exact run_fng F hr hgd hb hd hx I1 r q
end
theorem fng_of {CX : CXT} {P : Program} {w : World} {K : Fg} {mg : Str → Option Value} {base : Heap} {k : Nat} {f : Addr} {name qual : Str} {params : Arguments} {body : List Stmt} {scope : Scope} {dV kV doc pm cdv ct oc : Value} {an od : Option Addr}
    {osl : Array (Option Value)} {N ps : List Str} {sp : Sp} (lk : K.lookup f = some ⟨oc, od, .func (PySem.W.fnOf name qual params body scope dV kV doc pm an cdv ct), osl⟩) (hcd : PySem.W.codeIn K cdv qual = true) (S : FnScope N ps scope)
    (len : ∀ vs H Q E, sp vs H Q E → vs.length = ps.length)
    (hbody : ∀ (A : Around) (outer : List Env) (s : Shared) (H : Hp) (vs : List V) (Q : VK) (E : XK), Room k (A.deeper (envOfC qual scope s.heap.objs.size f cdv)) → (A.deeper (envOfC qual scope s.heap.objs.size f cdv)).guards = some [] → sp vs H Q E →
      ∃ t, PSs (cxOf CX P w K mg base N qual scope f cdv A outer s H E) body t ∧ t { nx := fun _ H' => Q .non H', rt := Q } (L2.start N vs) H) :
    FnG P w K mg base CX (k + 1) f (PySem.W.fnOf name qual params body scope dV kV doc pm an cdv ct) ps sp := by
  refine ⟨len, fun A outer s H args us vs Q E hr hgd e0 hb r hsp => ?_⟩
  have hl := len _ _ _ _ hsp
  have KX : K.In s.heap := e0.mod.kin.keeps fun b o e => (e0.bs b o e).1
  have lim : s.heap.NoLimit := e0.mod.nolimit.keeps fun b o e => (e0.bs b o e).1
  have hkind : ∀ y ∈ ps.zip us, scope.names.lookup y.1 = some .local ∨ (scope.names.lookup y.1 = some .cell ∧ ((cellsFrom (s.heap.objs.size + 1) scope.names []).lookup y.1).isSome = true) := fun ⟨n, v⟩ hy => by
    rcases S.par n (List.of_mem_zip hy).1 with q | q
    · exact .inl q
    · exact .inr ⟨q, PySem.W.cellsFrom_some _ _ _ (.inl q)⟩
  refine codeAny_call_function hr.depth (KX _ _ lk) rfl S.co S.gen rfl (PySem.W.codeRec_of KX hcd) (hb _ _ _ _ ?_)
  refine wpAny_newFunctionEnv_cells S.kind hkind fun env he s1 x => ?_
  subst he
  refine ⟨lim.keeps x.toInCall.keep, codeAny_func ?_⟩
  obtain ⟨t, ht, hq⟩ := hbody A outer s H vs Q E (hr.deeper _) hgd hsp
  have I : L2.Inv (cxOf CX P w K mg base N qual scope f cdv A outer s H E) [] (L2.start N vs) H s1 := inv_start S hr.hd e0 hl r x
  refine wpAny_mono (ht.run [] s1 (L2.start N vs) H _ I hq) (fun fl s' hs => ?_) fun e s' hs => hs
  have fin : ∀ {σ' : L2.St} {H' : Hp} {v : V} {u : Value}, L2.Inv (cxOf CX P w K mg base N qual scope f cdv A outer s H E) [] σ' H' s' → RelV v u → Q v H' → L2.CE outer P w H s Q u s' :=
    fun {σ' H' v u} J rv q => ⟨v, H', J.os, J.bare, J.base, J.hok, rv, q⟩
  cases fl with
  | ret u =>
    obtain ⟨v, σ', H', J, rv, q⟩ := hs
    exact fin J rv q
  | next =>
    obtain ⟨σ', H', J, q⟩ := hs
    exact fin (v := V.non) (u := Value.none) J rfl q
  | brk =>
    obtain ⟨_, _, _, q⟩ := hs
    exact False.elim q
  | cont =>
    obtain ⟨_, _, _, q⟩ := hs
    exact False.elim q

/-! ### promises over data -/
inductive Arg where
  | val (d : D) | bor (xs : List D) | pen | scr (ns : List Int) | ref (a : Addr)
abbrev DSp (S : Type := Option Pen) := List Arg → S → (D → S → Prop) → Prop
def ArgR (K : Fg) (H F : Hp) (pa : Option Addr) (T : Addr → Prop) : Arg → V → Prop
  | .val d, v => DR K F d v
  | .bor xs, v => ∃ a vs, v = .ref a ∧ H a = some (.lst vs) ∧ DRs K F xs vs ∧ ¬ T a
  | .pen, v => ∃ a, pa = some a ∧ v = .ref a
  | .scr ns, v => ∃ a, v = .ref a ∧ ScrR K H T a ns
  | .ref a, v => v = .ref a
def ArgsR (K : Fg) (H F : Hp) (pa : Option Addr) (T : Addr → Prop) : List Arg → List V → Prop
  | [], vs => vs = []
  | a :: as, vs => ∃ v r, vs = v :: r ∧ ArgR K H F pa T a v ∧ ArgsR K H F pa T as r
theorem ArgsR.len {K : Fg} {H F : Hp} {pa : Option Addr} {T : Addr → Prop} : ∀ {as : List Arg} {vs : List V}, ArgsR K H F pa T as vs → vs.length = as.length
  | [], vs, h => by rw [show vs = [] from h]; rfl
  | a :: as, vs, h => by
    obtain ⟨v, r, rfl, _, h⟩ := h
    rw [List.length_cons, List.length_cons, ArgsR.len h]
/-- a promise over data as a promise over the heap -/
def spOf (K : Fg) (n : Nat) (dsp : DSp S) : Sp := fun vs H Q _ => ∃ F pa T as s P, Szs H ∧ Le F H ∧ ArgsR K H F pa T as vs ∧ StK.R K pa H F s T ∧ (∀ b, T b → H b ≠ none ∧ F b = none) ∧ as.length = n ∧ dsp as s P ∧
  ∀ d s' v H' F' T', P d s' → Szs H' → Le F F' → Le F' H' → (∀ b o, F' b = some o → F b = some o ∨ H b = none) → (∀ b o, H b = some o → ¬ T b → H' b = some o) → StK.R K pa H' F' s' T' → (∀ b, T' b → (T b ∨ H b = none) ∧ H' b ≠ none ∧ F' b = none) → (∀ b, T b → H' b ≠ none) → DR K F' d v → Q v H'
abbrev FnD (P : Program) (w : World) (K : Fg) (mg : Str → Option Value) (base : Heap) (k : Nat) (f : Addr) (fd : FuncData) (ps : List Str) (dsp : DSp S) : Prop := FnG P w K mg base CX0 k f fd ps (spOf K ps.length dsp)
theorem FnD.none {P : Program} {w : World} {K : Fg} {mg : Str → Option Value} {base : Heap} {k : Nat} {f : Addr} {fd : FuncData} {ps : List Str} {dsp : DSp S} (h : ∀ as pn P, ¬ dsp as pn P) : FnD P w K mg base k f fd ps dsp :=
  ⟨fun vs H Q E ⟨F, pa, T, as, pn, P, _, _, _, _, _, _, q, _⟩ => (h _ _ _ q).elim, fun A outer s H args us vs Q E _ _ _ _ _ ⟨F, pa, T, as, pn, P, _, _, _, _, _, _, q, _⟩ => (h _ _ _ q).elim⟩
def Arg.sl : Arg → Sl
  | .val d => .val d
  | .bor xs => .bor xs
  | .pen => .pen
  | .scr ns => .scr ns
  | .ref a => .ref a
def startD (n : Nat) (as : List Arg) : List Sl := as.map Arg.sl ++ List.replicate (n - as.length) .un
theorem argR_sl {K : Fg} {H F : Hp} {pa : Option Addr} {T : Addr → Prop} {a : Arg} {v : V} (h : ArgR K H F pa T a v) : SlotR K ⟨H, F, T⟩ pa H F a.sl (some v) := by
  cases a with
  | val d => exact ⟨v, rfl, h⟩
  | bor xs =>
    obtain ⟨a, vs, rfl, h1, h2, h3⟩ := h
    exact ⟨a, vs, rfl, h1, h2, h3⟩
  | pen =>
    obtain ⟨a, h1, rfl⟩ := h
    exact ⟨a, h1, rfl⟩
  | scr ns =>
    obtain ⟨a, rfl, h1⟩ := h
    exact ⟨a, rfl, h1⟩
  | ref a =>
    have h : v = .ref a := h
    subst h
    exact rfl
theorem ArgsR.get {K : Fg} {H F : Hp} {pa : Option Addr} {T : Addr → Prop} : ∀ {as : List Arg} {vs : List V} {i : Nat} {a : Arg}, ArgsR K H F pa T as vs → as[i]? = some a → ∃ v, vs[i]? = some v ∧ ArgR K H F pa T a v
  | [], vs, i, a, _, e => by simp at e
  | b :: as, vs, 0, a, h, e => by
    obtain ⟨v, r, rfl, h1, _⟩ := h
    simp at e
    subst e
    exact ⟨v, rfl, h1⟩
  | b :: as, vs, i + 1, a, h, e => by
    obtain ⟨v, r, rfl, _, h2⟩ := h
    exact ArgsR.get (i := i) h2 (by simpa using e)
theorem rel_start {K : Fg} {H F : Hp} {pa : Option Addr} {T : Addr → Prop} {as : List Arg} {vs : List V} {pn : S} {N : List Str} (hz : Szs H) (hF : Le F H) (h : ArgsR K H F pa T as vs) (hp : StK.R K pa H F pn T) (hpl : ∀ b, T b → H b ≠ none ∧ F b = none) : Rel K ⟨H, F, T⟩ pa (L2.start N vs) H F (startD N.length as) pn := by
  have hl := h.len
  have noown : ∀ (i : Nat) (xs : List D), (startD N.length as)[i]? ≠ some (.own xs) := fun i xs e1 => by
    unfold startD at e1
    by_cases hi : i < as.length
    · rw [List.getElem?_append_left (by simpa using hi), List.getElem?_map] at e1
      obtain ⟨a, _, h2⟩ := Option.map_eq_some_iff.mp e1
      cases a <;> cases h2
    · rw [List.getElem?_append_right (by simp; omega), List.getElem?_replicate] at e1
      split at e1 <;> cases e1
  refine ⟨by simp [L2.start, startD, hl], hF, fun b o e _ => e, Le.refl _, fun b o e => .inl e, fun i s e => ?_, fun i j xs ys a e1 _ _ _ => absurd e1 (noown i xs), ⟨T, hp, fun b hb => (hpl b hb).1, fun b hb => (hpl b hb).2, fun b hb => .inr hb, fun i xs a e1 _ => absurd e1 (noown i xs)⟩, fun b hb => (hpl b hb).1, hz⟩
  unfold startD at e
  by_cases hi : i < as.length
  · rw [List.getElem?_append_left (by simpa using hi), List.getElem?_map] at e
    obtain ⟨a, h1, rfl⟩ := Option.map_eq_some_iff.mp e
    obtain ⟨v, h2, h3⟩ := h.get h1
    refine ⟨some v, ?_, argR_sl h3⟩
    unfold L2.start
    rw [List.getElem?_append_left (by simp; omega), List.getElem?_map, h2]
    rfl
  · rw [List.getElem?_append_right (by simp; omega), List.getElem?_replicate] at e
    split at e
    · cases e
      rename_i hlt
      refine ⟨none, ?_, trivial⟩
      unfold L2.start
      rw [List.getElem?_append_right (by simp; omega), List.getElem?_replicate, if_pos (by simp at hlt ⊢; omega)]
    · cases e
abbrev cx0 (P : Program) (w : World) (K : Fg) (mg : Str → Option Value) (base : Heap) (N : List Str) (qual : Str) (scope : Scope) (f : Addr) (cd : Value) (A : Around) (outer : List Env) (s : Shared) (H : Hp) (E : XK) : Cx := (cxOf CX0 P w K mg base N qual scope f cd A outer s H E).nox
/-- behind a def's body: what its caller wants -/
theorem rel_end {K : Fg} {H F : Hp} {pa : Option Addr} {T : Addr → Prop} {P : D → S → Prop} {Q : VK} {zs : List (Option V)} {ws : List Sl} {d : D} {pn : S} {v : V} {H' F' : Hp}
    (q : ∀ d s' v H' F' T', P d s' → Szs H' → Le F F' → Le F' H' → (∀ b o, F' b = some o → F b = some o ∨ H b = none) → (∀ b o, H b = some o → ¬ T b → H' b = some o) → StK.R K pa H' F' s' T' → (∀ b, T' b → (T b ∨ H b = none) ∧ H' b ≠ none ∧ F' b = none) → (∀ b, T b → H' b ≠ none) → DR K F' d v → Q v H')
    (h : P d pn) (R : Rel K ⟨H, F, T⟩ pa (zs ++ [some v]) H' F' (ws ++ [.val d]) pn) : Q v H' := by
  obtain ⟨⟨v', e', hd⟩, _⟩ := Rel.last (s := .val d) R
  cases e'
  obtain ⟨T', t⟩ := R.st
  exact q d pn v H' F' T' h R.sz R.f0 R.fh R.fr R.base t.r (fun b hb => ⟨(t.bs b hb).symm, t.hn b hb, t.fn b hb⟩) R.pal hd
/-! ### calls -/
def slArg : Sl → Option Arg
  | .val d => some (.val d)
  | .own xs => some (.bor xs)
  | .bor xs => some (.bor xs)
  | .pen => some .pen
  | .scr ns => some (.scr ns)
  | .ref a => some (.ref a)
  | .un => none
def toArg (ρ : En S) : Tk → Option Arg
  | .tmp (.val d) => some (.val d)
  | .slot i => (ρ.sl[i]?).bind slArg
  | .fb b => some (.ref b)
  | _ => none
def toArgs (ρ : En S) : List Tk → Option (List Arg)
  | [] => some []
  | k :: ks => (toArg ρ k).bind fun a => (toArgs ρ ks).bind fun as => some (a :: as)
/-- .. for a def that knows the pen alone: a list of the store is lent -/
def toArgP (ρ : En S) : Tk → Option Arg
  | .fb b => (StK.look ρ.pn b).map .bor
  | .slot i => match ρ.sl[i]? with
    | some (.ref b) => (StK.look ρ.pn b).map .bor
    | _ => toArg ρ (.slot i)
  | k => toArg ρ k
def toArgsP (ρ : En S) : List Tk → Option (List Arg)
  | [] => some []
  | k :: ks => (toArgP ρ k).bind fun a => (toArgsP ρ ks).bind fun as => some (a :: as)
def dCall (n : Nat) (dsp : DSp S) (ta : AW S) : DW S := fun ρ P => ta ρ fun ks ρ1 => gets (toArgs ρ1 ks) fun as => as.length = n ∧ dsp as ρ1.pn fun d pn' => P (.val d) ⟨ρ1.sl, pn'⟩
/-- a call of a def that knows the pen alone -/
def dCallP [PenK S] (n : Nat) (dsp : DSp) (ta : AW S) : DW S := fun ρ P => ta ρ fun ks ρ1 => gets (toArgsP ρ1 ks) fun as => as.length = n ∧ dsp as (PenK.get ρ1.pn) fun d pn' => P (.val d) ⟨ρ1.sl, PenK.set pn' ρ1.pn⟩
end Dk
set_option Elab.async false
set_option linter.all false
set_option maxRecDepth 100000
set_option maxHeartbeats 2000000
/-! Dk, part 7b: calls of defs. -/
namespace Dk
open PySem PySem.Spec PyProof.Rows L2
variable {S : Type} [StK S]
theorem Rel.notT {K : Fg} {B : Bs} {pa : Option Addr} {zs : List (Option V)} {H F : Hp} {ws : List Sl} {pn : S} {T : Addr → Prop} (t : StR K B pa zs H F ws pn T) {a : Addr} (h : B.H0 a ≠ none) (n : ¬ B.M a) : ¬ T a := fun z => (t.bs a z).elim h n
theorem Rel.scrR {K : Fg} {B : Bs} {pa : Option Addr} {zs : List (Option V)} {H F : Hp} {ws : List Sl} {pn : S} (R : Rel K B pa zs H F ws pn) {T : Addr → Prop} (t : StR K B pa zs H F ws pn T) {a : Addr} {ns : List Int} (h : ScrR K B.H0 B.M a ns) : ScrR K H T a ns := by
  rcases h with ⟨h, n⟩ | h
  · have hne : B.H0 a ≠ none := by
      rcases h with h | ⟨o, h⟩ <;> (rw [h]; exact nofun)
    refine .inl ⟨?_, Rel.notT t hne n⟩
    rcases h with h | ⟨o, h⟩
    · exact .inl (R.base _ _ h n)
    · exact .inr ⟨o, R.base _ _ h n⟩
  · exact .inr h
theorem Rel.scrH {K : Fg} {B : Bs} {pa : Option Addr} {zs : List (Option V)} {H F : Hp} {ws : List Sl} {pn : S} (R : Rel K B pa zs H F ws pn) {a : Addr} {ns : List Int} (h : ScrR K B.H0 B.M a ns) : SqL K H a (ns.map .int) := by
  obtain ⟨T, t⟩ := R.st
  exact (R.scrR t h).sq
theorem arg_at {K : Fg} {B : Bs} {pa : Option Addr} {σ : L2.St} {τ : List (Option V)} {H F : Hp} {ρ : En S} {θ : List Sl} {k : Tk} {v : V} {a : Arg} (R : Rel K B pa (σ ++ τ) H F (ρ.sl ++ θ) ρ.pn) (hl : ρ.sl.length = σ.length) (c : Nat)
    (hz : τ[c]? = some (some v)) (hw : θ[c]? = some k.sl) (hs : ∀ i, k = .slot i → σ[i]? = some (some v)) (h : toArg ρ k = some a) {T : Addr → Prop} (t : StR K B pa (σ ++ τ) H F (ρ.sl ++ θ) ρ.pn T) : ArgR K H F pa T a v := by
  cases k with
  | bt xs => cases h
  | fb b =>
    cases h
    have hw : θ[c]? = some (.ref b) := hw
    obtain ⟨o, h1, h2⟩ := R.sl (ρ.sl.length + c) (.ref b) (by rw [List.getElem?_append_right (by omega)]; simpa using hw)
    have h2 : o = some (.ref b) := h2
    subst h2
    rw [List.getElem?_append_right (by omega), hl] at h1
    simp at h1
    rw [hz] at h1
    cases h1
    exact rfl
  | tmp r =>
    cases r with
    | own _ => cases h
    | val d =>
      cases h
      replace hw : θ[c]? = some (.val d) := hw
      obtain ⟨o, h1, u, h2, h3⟩ := R.sl (ρ.sl.length + c) (.val d) (by rw [List.getElem?_append_right (by omega)]; simpa using hw)
      rw [List.getElem?_append_right (by omega), hl] at h1
      simp at h1
      rw [hz] at h1
      cases h1
      cases h2
      exact h3
  | slot i =>
    have hv := hs i rfl
    have e : ∀ s, ρ.sl[i]? = some s → SlotR K B pa H F s (some v) := fun s q => by
      have hi := (List.getElem?_eq_some_iff.mp q).1
      obtain ⟨o, h1, h2⟩ := R.sl i s (by rw [List.getElem?_append_left hi]; exact q)
      rw [List.getElem?_append_left (by omega), hv] at h1
      cases h1
      exact h2
    have h : (ρ.sl[i]?).bind slArg = some a := h
    cases q : ρ.sl[i]? with
    | none => rw [q] at h; cases h
    | some s =>
      rw [q] at h
      have := e s q
      cases s with
      | un => cases h
      | val d =>
        cases h
        obtain ⟨u, h1, h2⟩ := this
        cases h1
        exact h2
      | own xs =>
        cases h
        obtain ⟨a, vs, h1, h2, h3, h4, h5⟩ := this
        cases h1
        refine ⟨a, vs, rfl, h2, h3, t.ap i xs a ?_ ?_⟩
        · rw [List.getElem?_append_left (List.getElem?_eq_some_iff.mp q).1]; exact q
        · have hi := (List.getElem?_eq_some_iff.mp q).1
          rw [List.getElem?_append_left (by omega)]; exact hv
      | bor xs =>
        cases h
        obtain ⟨a, vs, h1, h2, h3, h4⟩ := this
        cases h1
        exact ⟨a, vs, rfl, R.base _ _ h2 h4, h3, Rel.notT t (by rw [h2]; exact nofun) h4⟩
      | pen =>
        cases h
        obtain ⟨a, h1, h2⟩ := this
        cases h2
        exact ⟨a, h1, rfl⟩
      | scr ns =>
        cases h
        obtain ⟨a, h1, h2⟩ := this
        cases h1
        exact ⟨a, rfl, R.scrR t h2⟩
      | ref a =>
        cases h
        exact Option.some.inj this
theorem args_all {K : Fg} {B : Bs} {pa : Option Addr} {σ : L2.St} {H F : Hp} {ρ : En S} {T : Addr → Prop} (hl : ρ.sl.length = σ.length) : ∀ (ks : List Tk) (vs : List V) (τ : List (Option V)) (θ : List Sl) (as : List Arg),
    τ.length = θ.length → ks.length = vs.length → Rel K B pa (σ ++ (τ ++ vs.map some)) H F (ρ.sl ++ (θ ++ ks.map Tk.sl)) ρ.pn → StR K B pa (σ ++ (τ ++ vs.map some)) H F (ρ.sl ++ (θ ++ ks.map Tk.sl)) ρ.pn T → (∀ (j : Nat) i v, ks[j]? = some (.slot i) → vs[j]? = some v → σ[i]? = some (some v)) → toArgs ρ ks = some as → ArgsR K H F pa T as vs := by
  intro ks
  induction ks with
  | nil =>
    intro vs τ θ as _ hk _ _ _ h
    cases vs with
    | nil => cases h; rfl
    | cons _ _ => simp at hk
  | cons k ks ih =>
    intro vs τ θ as ht hk R t s h
    cases vs with
    | nil => simp at hk
    | cons v vs =>
      have h : ((toArg ρ k).bind fun a => (toArgs ρ ks).bind fun as => some (a :: as)) = some as := h
      obtain ⟨a, e1, h⟩ := Option.bind_eq_some_iff.mp h
      obtain ⟨as', e2, h⟩ := Option.bind_eq_some_iff.mp h
      cases h
      refine ⟨v, vs, rfl, ?_, ?_⟩
      · exact arg_at R hl τ.length (by simp) (by rw [ht]; simp) (fun i e => s 0 i v (by simp [e]) rfl) e1 t
      · refine ih vs (τ ++ [some v]) (θ ++ [k.sl]) as' (by simp [ht]) (by simpa using hk) (by simpa only [List.append_assoc, List.map_cons, List.singleton_append] using R) (by simpa only [List.append_assoc, List.map_cons, List.singleton_append] using t) (fun j i u h1 h2 => s (j + 1) i u (by simpa using h1) (by simpa using h2)) e2
/-- fewer slots: the same store -/
theorem Rel.popsT {K : Fg} {B : Bs} {pa : Option Addr} {zs os : List (Option V)} {H F : Hp} {ws ss : List Sl} {pn : S} {T : Addr → Prop} (hl : zs.length = ws.length) (t : StR K B pa (zs ++ os) H F (ws ++ ss) pn T) : StR K B pa zs H F ws pn T :=
  ⟨t.r, t.hn, t.fn, t.bs, fun i xs a e1 e2 => t.ap i xs a (by rw [List.getElem?_append_left (List.getElem?_eq_some_iff.mp e1).1]; exact e1) (by rw [List.getElem?_append_left (List.getElem?_eq_some_iff.mp e2).1]; exact e2)⟩
section
variable {X : Cx} {k : Nat} {f : Addr} {fd : FuncData} {ps : List Str} {dsp : DSp S} {x : Str} {p pos : Pos} {e : Expr} {es : List Expr} {ta : AW S}
theorem call_step {K : Fg} {n : Nat} {dsp : DSp S} {ta : AW S} {σ : L2.St} {H : Hp} {Q : VK} (h : liftO K (tmpD (dCall n dsp ta)) σ H Q) : liftA K ta σ H fun vs H1 => spOf K n dsp vs H1 Q E0 := by
  obtain ⟨B, pa, τ, F, ρ, θ, P, R, hl, h, q⟩ := toE h
  refine ⟨B, pa, τ, F, ρ, θ, _, R, hl, h, fun ks ρ1 vs H1 F1 h1 hl1 hk R1 s1 => ?_⟩
  obtain ⟨as, e1, hn, h1⟩ := gets_elim h1
  have R2 : Rel K B pa (σ ++ τ) H1 F1 (ρ1.sl ++ θ) ρ1.pn := R1.pops (by simp [hk])
  have hτ : τ.length = θ.length := by have := R2.len; simp at this; omega
  obtain ⟨T, t⟩ := R1.st
  have t2 := Rel.popsT R2.len t
  refine ⟨F1, pa, T, as, ρ1.pn, _, R2.sz, R2.fh, args_all hl1 ks vs τ θ as hτ hk (by simpa only [List.append_assoc] using R1) (by simpa only [List.append_assoc] using t) s1 e1, t.r, fun b hb => ⟨t.hn b hb, t.fn b hb⟩, hn, h1, fun d pn' v H' F' T' hp hz hF hFH hfr hH hr hT hpl hv => ?_⟩
  have R3 : Rel K B pa (σ ++ τ) H' F' (ρ1.sl ++ θ) pn' := R2.called t2 hH hF hFH hfr hr (fun b hb => (hT b hb).1) (fun b hb => (hT b hb).2.1) (fun b hb => (hT b hb).2.2) (fun b hb => by
    by_cases hTb : T b
    · exact hpl b hTb
    · obtain ⟨u, e⟩ := Option.ne_none_iff_exists'.mp hb
      rw [hH b u e hTb]
      exact nofun) hz
  exact q (.val d) ⟨ρ1.sl, pn'⟩ v H' F' hp hl1 (R3.pushVal hv)
theorem ce_call (F : FnD X.prog X.w X.K X.mg X.base k f fd ps dsp) (O : XO X k) (hm : X.mg x = some (.ref f)) (hk : PySem.W.keepIn X.K (.ref f) = true) (hb : Binds X.K fd ps []) (ha : CA X (e :: es) ta) (hg : Gl X x := by rfl) (hdb : (x == ("__debug__" : Str)) = false := by decide)
    (he : starEach (e :: es) X.env = (false, eval e X.env) :: starEach es X.env := by rfl) (hpl : (backTo pos (starEach es X.env)).any (·.1) = false := by rfl) : CE (S := S) X (.Call (.Name x p) (e :: es) [] pos) (dCall ps.length dsp ta) :=
  pe_mono (pe_callG F O.room O.gd hg hm hk hb .nil pass0 ha hdb he hpl) fun _ _ _ h => by
    have := call_step h
    simp only [tCall, List.append_nil]
    exact this
end
/-! ### a def that knows the pen alone, called where there is more -/
section
variable {S : Type} [PenK S] {X : Cx} {k : Nat} {f : Addr} {fd : FuncData} {ps : List Str} {dsp : DSp} {x : Str} {p pos : Pos} {e : Expr} {es : List Expr} {ta : AW S}
theorem ArgsR.less {K : Fg} {H F : Hp} {pa : Option Addr} {T T' : Addr → Prop} (h : ∀ b, T' b → T b) : ∀ {as : List Arg} {vs : List V}, ArgsR K H F pa T as vs → ArgsR K H F pa T' as vs
  | [], vs, q => q
  | a :: as, vs, ⟨v, r, e, q, qs⟩ => by
    refine ⟨v, r, e, ?_, ArgsR.less h qs⟩
    cases a with
    | val d => exact q
    | pen => exact q
    | bor xs =>
      obtain ⟨a, vs, h1, h2, h3, h4⟩ := q
      exact ⟨a, vs, h1, h2, h3, fun z => h4 (h _ z)⟩
    | scr ns =>
      obtain ⟨a, h1, h2⟩ := q
      exact ⟨a, h1, h2.imp (fun z => ⟨z.1, fun y => z.2 (h _ y)⟩) id⟩
    | ref a => exact q
theorem ArgR.less {K : Fg} {H F : Hp} {pa : Option Addr} {T T' : Addr → Prop} (h : ∀ b, T' b → T b) {a : Arg} {v : V} (q : ArgR K H F pa T a v) : ArgR K H F pa T' a v := by
  obtain ⟨v', r, e, q, _⟩ := ArgsR.less h (as := [a]) (vs := [v]) ⟨v, [], rfl, q, rfl⟩
  cases e
  exact q
theorem argP_at {K : Fg} {B : Bs} {pa : Option Addr} {σ : L2.St} {τ : List (Option V)} {H F : Hp} {ρ : En S} {θ : List Sl} {k : Tk} {v : V} {a : Arg} (R : Rel K B pa (σ ++ τ) H F (ρ.sl ++ θ) ρ.pn) (hl : ρ.sl.length = σ.length) (c : Nat)
    (hz : τ[c]? = some (some v)) (hw : θ[c]? = some k.sl) (hs : ∀ i, k = .slot i → σ[i]? = some (some v)) (h : toArgP ρ k = some a) {T : Addr → Prop} (t : StR K B pa (σ ++ τ) H F (ρ.sl ++ θ) ρ.pn T) : ArgR K H F pa (fun b => pa = some b) a v := by
  obtain ⟨pr, pt⟩ := PenK.pen t.r
  have old : toArg ρ k = some a → ArgR K H F pa (fun b => pa = some b) a v := fun h => ArgR.less pt (arg_at R hl c hz hw hs h t)
  have lst : ∀ b, v = .ref b → (StK.look ρ.pn b).map Arg.bor = some a → ArgR K H F pa (fun b => pa = some b) a v := fun b e h => by
    obtain ⟨xs, h1, rfl⟩ := Option.map_eq_some_iff.mp h
    obtain ⟨vs, h2, h3⟩ := StK.seen t.r h1
    exact ⟨b, vs, e, h2, h3, PenK.apart t.r h1⟩
  cases k with
  | tmp r => exact old h
  | bt xs => exact old h
  | fb b =>
    refine lst b ?_ h
    have hw : θ[c]? = some (.ref b) := hw
    obtain ⟨o, h1, h2⟩ := R.sl (ρ.sl.length + c) (.ref b) (by rw [List.getElem?_append_right (by omega)]; simpa using hw)
    have h2 : o = some (.ref b) := h2
    subst h2
    rw [List.getElem?_append_right (by omega), hl] at h1
    simp at h1
    rw [hz] at h1
    cases h1
    rfl
  | slot i =>
    have h : (match ρ.sl[i]? with
      | some (.ref b) => (StK.look ρ.pn b).map Arg.bor
      | _ => toArg ρ (.slot i)) = some a := h
    split at h
    · rename_i b hq
      refine lst b ?_ h
      have hi := (List.getElem?_eq_some_iff.mp hq).1
      obtain ⟨o, h1, h2⟩ := R.sl i _ (by rw [List.getElem?_append_left hi]; exact hq)
      have h2 : o = some (.ref b) := h2
      subst h2
      rw [List.getElem?_append_left (by omega), hs i rfl] at h1
      cases h1
      rfl
    · exact old h
theorem argsP_all {K : Fg} {B : Bs} {pa : Option Addr} {σ : L2.St} {H F : Hp} {ρ : En S} {T : Addr → Prop} (hl : ρ.sl.length = σ.length) : ∀ (ks : List Tk) (vs : List V) (τ : List (Option V)) (θ : List Sl) (as : List Arg),
    τ.length = θ.length → ks.length = vs.length → Rel K B pa (σ ++ (τ ++ vs.map some)) H F (ρ.sl ++ (θ ++ ks.map Tk.sl)) ρ.pn → StR K B pa (σ ++ (τ ++ vs.map some)) H F (ρ.sl ++ (θ ++ ks.map Tk.sl)) ρ.pn T → (∀ (j : Nat) i v, ks[j]? = some (.slot i) → vs[j]? = some v → σ[i]? = some (some v)) → toArgsP ρ ks = some as → ArgsR K H F pa (fun b => pa = some b) as vs := by
  intro ks
  induction ks with
  | nil =>
    intro vs τ θ as _ hk _ _ _ h
    cases vs with
    | nil => cases h; rfl
    | cons _ _ => simp at hk
  | cons k ks ih =>
    intro vs τ θ as ht hk R t s h
    cases vs with
    | nil => simp at hk
    | cons v vs =>
      have h : ((toArgP ρ k).bind fun a => (toArgsP ρ ks).bind fun as => some (a :: as)) = some as := h
      obtain ⟨a, e1, h⟩ := Option.bind_eq_some_iff.mp h
      obtain ⟨as', e2, h⟩ := Option.bind_eq_some_iff.mp h
      cases h
      refine ⟨v, vs, rfl, ?_, ?_⟩
      · exact argP_at R hl τ.length (by simp) (by rw [ht]; simp) (fun i e => s 0 i v (by simp [e]) rfl) e1 t
      · refine ih vs (τ ++ [some v]) (θ ++ [k.sl]) as' (by simp [ht]) (by simpa using hk) (by simpa only [List.append_assoc, List.map_cons, List.singleton_append] using R) (by simpa only [List.append_assoc, List.map_cons, List.singleton_append] using t) (fun j i u h1 h2 => s (j + 1) i u (by simpa using h1) (by simpa using h2)) e2
theorem callP_step {K : Fg} {n : Nat} {dsp : DSp} {ta : AW S} {σ : L2.St} {H : Hp} {Q : VK} (h : liftO K (tmpD (dCallP n dsp ta)) σ H Q) : liftA K ta σ H fun vs H1 => spOf K n dsp vs H1 Q E0 := by
  obtain ⟨B, pa, τ, F, ρ, θ, P, R, hl, h, q⟩ := toE h
  refine ⟨B, pa, τ, F, ρ, θ, _, R, hl, h, fun ks ρ1 vs H1 F1 h1 hl1 hk R1 s1 => ?_⟩
  obtain ⟨as, e1, hn, h1⟩ := gets_elim h1
  have R2 : Rel K B pa (σ ++ τ) H1 F1 (ρ1.sl ++ θ) ρ1.pn := R1.pops (by simp [hk])
  have hτ : τ.length = θ.length := by have := R2.len; simp at this; omega
  obtain ⟨T, t⟩ := R1.st
  have t2 := Rel.popsT R2.len t
  obtain ⟨pr, pt⟩ := PenK.pen t.r
  have hA : ArgsR K H1 F1 pa (fun b => pa = some b) as vs := argsP_all hl1 ks vs τ θ as hτ hk (by simpa only [List.append_assoc] using R1) (by simpa only [List.append_assoc] using t) s1 e1
  refine ⟨F1, pa, fun b => pa = some b, as, PenK.get ρ1.pn, _, R2.sz, R2.fh, hA, ⟨pr, rfl⟩, fun b hb => ⟨t.hn b (pt b hb), t.fn b (pt b hb)⟩, hn, h1, fun d pn' v H' F' T' hp hz hF hFH hfr hH hr hT hpl hv => ?_⟩
  obtain ⟨hr, rfl⟩ := hr
  have hT2 : ∀ b, T b → H' b ≠ none ∧ F' b = none := fun b hb => by
    by_cases e : pa = some b
    · exact (hT b e).2
    · obtain ⟨u, eu⟩ := Option.ne_none_iff_exists'.mp (t.hn b hb)
      exact ⟨by rw [hH b u eu e]; exact nofun, new_none hfr (t.fn b hb) (t.hn b hb)⟩
  have hr2 : StK.R K pa H' F' (PenK.set pn' ρ1.pn) T := PenK.up t.r (fun b hb n => by
    obtain ⟨u, eu⟩ := Option.ne_none_iff_exists'.mp (t.hn b hb)
    rw [hH b u eu n, eu]) hF (fun b hb => (hT2 b hb).2) hr
  have R3 : Rel K B pa (σ ++ τ) H' F' (ρ1.sl ++ θ) (PenK.set pn' ρ1.pn) := R2.called t2 (fun b u e n => hH b u e fun z => n (pt b z)) hF hFH hfr hr2 (fun b hb => .inl hb) (fun b hb => (hT2 b hb).1) (fun b hb => (hT2 b hb).2) (fun b hb => by
    by_cases e : pa = some b
    · exact (hT b e).2.1
    · obtain ⟨u, eu⟩ := Option.ne_none_iff_exists'.mp hb
      rw [hH b u eu e]
      exact nofun) hz
  exact q (.val d) ⟨ρ1.sl, PenK.set pn' ρ1.pn⟩ v H' F' hp hl1 (R3.pushVal hv)
theorem ce_callP (F : FnD X.prog X.w X.K X.mg X.base k f fd ps dsp) (O : XO X k) (hm : X.mg x = some (.ref f)) (hk : PySem.W.keepIn X.K (.ref f) = true) (hb : Binds X.K fd ps []) (ha : CA X (e :: es) ta) (hg : Gl X x := by rfl) (hdb : (x == ("__debug__" : Str)) = false := by decide)
    (he : starEach (e :: es) X.env = (false, eval e X.env) :: starEach es X.env := by rfl) (hpl : (backTo pos (starEach es X.env)).any (·.1) = false := by rfl) : CE (S := S) X (.Call (.Name x p) (e :: es) [] pos) (dCallP ps.length dsp ta) :=
  pe_mono (pe_callG F O.room O.gd hg hm hk hb .nil pass0 ha hdb he hpl) fun _ _ _ h => by
    have := callP_step h
    simp only [tCall, List.append_nil]
    exact this
end
end Dk
set_option Elab.async false
set_option linter.all false
set_option maxRecDepth 100000
set_option maxHeartbeats 2000000
/-! Dz, part 1: zip(.., strict=True): its steps. -/
namespace PySem
open Sem (wp)
abbrev IsZipS (h : Heap) (z TI TO : Addr) (f0 : Value) : Prop := h.get? z = some { cls := .type "zip", data := .fields #[f0, .bool false, .bool true, .ref TI, .ref TO] }
section
variable {prog : Program} {w : World} {A : Around} {E : Value → Shared → Prop} {s : Shared} {z TI TO i1 i2 it : Addr} {fp fp1 fp2 : List Addr} {n n1 n2 i : Nat} {P P1 P2 : Nat → Value → Prop} {St St1 St2 : Nat → Heap → Prop} {a1 a2 : Value}
theorem noe_item {Q : Option Value → Shared → Prop} (D : Draws prog w A it fp n P St) (hi : i < n) (st : St i s.heap) (hQ : ∀ x h' tk, P i x → St (i + 1) h' → Heap.SameBut it s.heap h' → Q (some x) { s with heap := h', toks := tk }) :
    wpAny (model prog w) A (Builtin.SmallTypes.nextOrEnd (.ref it)) Q E s := by
  unfold Builtin.SmallTypes.nextOrEnd
  exact wpAny_bind (wpAny_attempt (D.item i _ _ _ hi st fun x h' tk hx hs hb => wpAny_pure (hQ x h' tk hx hs hb)))
theorem noe_end {Q : Option Value → Shared → Prop} (D : Draws prog w A it fp n P St) (st : St n s.heap) (hQ : ∀ h', Heap.ExtBut it s.heap h' → Q none { s with heap := h' }) :
    wpAny (model prog w) A (Builtin.SmallTypes.nextOrEnd (.ref it)) Q E s := by
  unfold Builtin.SmallTypes.nextOrEnd
  refine wpAny_bind (wpAny_attempt (D.done s _ _ st fun h' e hb he => ?_))
  obtain ⟨o, ho, hc⟩ := he
  refine wpAny_bind (wpAny_isInstance (T := "StopIteration") (b := true) ⟨o, ho, hc⟩ isSubtype_stop ?_)
  exact wpAny_pure (hQ _ hb)
theorem zipS_next_item {Q : Value → Shared → Prop} (S : ZipSep2 z TI TO i1 i2 fp1 fp2) (D1 : Draws prog w A i1 fp1 n1 P1 St1) (D2 : Draws prog w A i2 fp2 n2 P2 St2)
    (hz : IsZipS s.heap z TI TO .none) (hTI : IsTupOf2 s.heap TI (.ref i1) (.ref i2)) (hTO : IsTupOf2 s.heap TO a1 a2) (st1 : St1 i s.heap) (st2 : St2 i s.heap) (hlt1 : i < n1) (hlt2 : i < n2)
    (hQ : ∀ x1 x2 h' tk, P1 i x1 → P2 i x2 → IsZipS h' z TI TO (rawInt s.heap.objs.size) → IsTupOf2 h' TO x1 x2 → St1 (i + 1) h' → St2 (i + 1) h' → IsTupOf2 h' s.heap.objs.size x1 x2 → h'.objs.size = s.heap.objs.size + 1 →
      (∀ c o, c ≠ z → c ≠ TO → c ≠ i1 → c ≠ i2 → s.heap.get? c = some o → h'.get? c = some o) → Q (.ref s.heap.objs.size) { s with heap := h', toks := tk }) :
    wpAny (model prog w) A (Builtin.«zip.__next__» ⟨[.ref z], []⟩) (fun fin s' => ∃ v, fin = .done (.ret v) ∧ Q v s') E s := by
  obtain ⟨hp, g, d, tk0, os⟩ := s
  show wpAny _ _ (field (.ref z) 2 >>= _) _ _ _
  refine wpAny_bind (wpAny_field hz rfl (x := .bool true) rfl ?_)
  show wpAny _ _ (field (.ref z) 3 >>= _) _ _ _
  refine wpAny_bind (wpAny_field hz rfl (x := .ref TI) rfl ?_)
  refine wpAny_bind (wpAny_seqItems hTI rfl ?_)
  show wpAny _ _ (Builtin.SmallTypes.ownedTupleIsFree (.ref z) >>= _) _ _ _
  refine wpAny_bind ?_
  unfold Builtin.SmallTypes.ownedTupleIsFree
  refine wpAny_bind (wpAny_field hz rfl (x := .none) rfl (wpAny_pure ?_))
  simp only [if_true]
  refine wpAny_bind (wpAny_rule ?_)
  refine wpAny_bind (wpAny_field hz rfl (x := .ref TO) rfl ?_)
  refine wpAny_bind (wpAny_setField_rec hz (by simp) fun g0 hz0 hs0 => ?_)
  replace hz0 : IsZipS g0 z TI TO .ellipsis := hz0
  replace hs0 : Heap.SameBut z hp g0 := hs0
  refine wpAny_bind ?_
  simp only [List.zipIdx_cons, List.zipIdx_nil, List.forIn_cons, List.forIn_nil]
  refine wpAny_bind (wpAny_bind (wpAny_onRaise ?_))
  show wpAny _ _ (Builtin.SmallTypes.nextOrEnd (.ref i1)) _ _ ⟨g0, g, d, tk0, os⟩
  refine noe_item D1 hlt1 (D1.over st1 hs0 S.zf1) fun x1 p1 tk1 hx1 sn1 hp1 => ?_
  replace hp1 : Heap.SameBut i1 g0 p1 := hp1
  have hU1 : IsTupOf2 p1 TO a1 a2 := hp1.extBut _ _ S.Ti1 (hs0.extBut _ _ S.TOz hTO)
  refine wpAny_bind (wpAny_seqItems (s := ⟨p1, g, d, tk1, os⟩) hU1 rfl ?_)
  refine wpAny_bind (updateSeq_IsTupOf2 (s := ⟨p1, g, d, tk1, os⟩) hU1 fun g1 hT1 hs1 => ?_)
  replace hT1 : IsTupOf2 g1 TO x1 a2 := hT1
  replace hs1 : Heap.SameBut TO p1 g1 := hs1
  refine wpAny_bind (wpAny_letGo (wpAny_pure ?_))
  refine wpAny_bind (wpAny_bind (wpAny_onRaise ?_))
  show wpAny _ _ (Builtin.SmallTypes.nextOrEnd (.ref i2)) _ _ ⟨g1, g, d, tk1, os⟩
  refine noe_item D2 hlt2 (D2.over (D2.over (D2.over st2 hs0 S.zf2) hp1 S.sep1_2) hs1 S.Tf2) fun x2 p2 tk2 hx2 sn2 hp2 => ?_
  replace hp2 : Heap.SameBut i2 g1 p2 := hp2
  have hU2 : IsTupOf2 p2 TO x1 a2 := hp2.extBut _ _ S.Ti2 hT1
  refine wpAny_bind (wpAny_seqItems (s := ⟨p2, g, d, tk2, os⟩) hU2 rfl ?_)
  refine wpAny_bind (updateSeq_IsTupOf2 (s := ⟨p2, g, d, tk2, os⟩) hU2 fun g2 hT2 hs2 => ?_)
  replace hT2 : IsTupOf2 g2 TO x1 x2 := hT2
  replace hs2 : Heap.SameBut TO p2 g2 := hs2
  refine wpAny_bind (wpAny_letGo (wpAny_pure (wpAny_pure ?_)))
  refine wpAny_bind (wpAny_seqItems (s := ⟨g2, g, d, tk2, os⟩) hT2 rfl ?_)
  refine wpAny_bind (wpAny_newTuple ?_)
  have hsz : g2.objs.size = hp.objs.size := by rw [hs2.1, hp2.1, hs1.1, hp1.1, hs0.1]
  have hzz : IsZipS g2 z TI TO .ellipsis := (hs2.extBut _ _ S.TOz.symm (hp2.extBut _ _ S.zi2 (hs1.extBut _ _ S.TOz.symm (hp1.extBut _ _ S.zi1 hz0))))
  have hkk : ∀ c o, c ≠ z → c ≠ TO → c ≠ i1 → c ≠ i2 → hp.get? c = some o → g2.get? c = some o := fun c o cz cT c1 c2 e =>
    (hs2.extBut _ _ cT (hp2.extBut _ _ c2 (hs1.extBut _ _ cT (hp1.extBut _ _ c1 (hs0.extBut _ _ cz e)))))
  have hj1 : St1 (i + 1) g2 := (D1.over (D1.over (D1.over sn1 hs1 S.Tf1) hp2 S.sep2_1) hs2 S.Tf1)
  have hj2 : St2 (i + 1) g2 := (D2.over sn2 hs2 S.Tf2)
  have hzlt : z < g2.objs.size := Heap.lt_size hzz
  show wpAny _ _ (Builtin.SmallTypes.ownedTupleHandOut (.ref z) (.ref g2.objs.size) >>= _) _ _ ⟨g2.push { cls := .type "tuple", data := .seq #[x1, x2] }, g, d, tk2, os⟩
  refine wpAny_bind ?_
  unfold Builtin.SmallTypes.ownedTupleHandOut
  have hz₆ : IsZipS (g2.push { cls := .type "tuple", data := .seq #[x1, x2] }) z TI TO .ellipsis := Heap.get?_push_of_some _ hzz
  refine wpAny_bind (wpAny_setField_rec hz₆ (by simp) fun h₇ hz₇ hs₇ => ?_)
  replace hz₇ : IsZipS h₇ z TI TO (rawInt g2.objs.size) := hz₇
  refine wpAny_setField_rec hz₇ (by simp) fun h₈ hz₈ hs₈ => ?_
  replace hz₈ : IsZipS h₈ z TI TO (rawInt g2.objs.size) := hz₈
  replace hs₇ : Heap.SameBut z (g2.push { cls := .type "tuple", data := .seq #[x1, x2] }) h₇ := hs₇
  replace hs₈ : Heap.SameBut z h₇ h₈ := hs₈
  have up : ∀ c o, c ≠ z → g2.get? c = some o → h₈.get? c = some o := fun c o c1 e => hs₈.extBut _ _ c1 (hs₇.extBut _ _ c1 (Heap.get?_push_of_some _ e))
  have hT₈ : IsTupOf2 h₈ g2.objs.size x1 x2 := hs₈.extBut _ _ (Nat.ne_of_gt hzlt) (hs₇.extBut _ _ (Nat.ne_of_gt hzlt) (Heap.get?_push_size _ rfl))
  have hz8 : h₈.objs.size = g2.objs.size + 1 := by rw [hs₈.1, hs₇.1, Heap.size_push]
  rw [hsz] at hz₈ hT₈ hz8
  refine wpAny_pure ⟨_, rfl, ?_⟩
  show Q (.ref g2.objs.size) ⟨h₈, g, d, tk2, os⟩
  rw [hsz]
  exact hQ x1 x2 h₈ tk2 hx1 hx2 hz₈ (up _ _ S.TOz hT2) (D1.frame _ _ _ hj1 fun b hb o e => up b o (fun q => S.zf1 (q ▸ hb)) e) (D2.frame _ _ _ hj2 fun b hb o e => up b o (fun q => S.zf2 (q ▸ hb)) e) hT₈ hz8 fun c o cz cT c1 c2 e => up c o cz (hkk c o cz cT c1 c2 e)
theorem stop_raised (hh : A.handled = none) {Q : Fin → Shared → Prop} (hE : ∀ h' e, (∀ c o, s.heap.get? c = some o → h'.get? c = some o) → (∃ o, h'.get? e = some o ∧ o.cls = .type "StopIteration") → E (.ref e) { s with heap := h' }) : wpAny (model prog w) A (Builtin.SmallTypes.stopIteration : Sem Fin) Q E s := by
  unfold Builtin.SmallTypes.stopIteration
  show wpAny _ _ (newExc (.type "StopIteration") [] >>= _) _ _ _
  refine wpAny_bind ?_
  simp only [newExc, newTuple]
  refine wpAny_bind (wpAny_newObj_type ?_ (by size_fits))
  refine wpAny_bind (m := firstArgMember _ _) (wpAny_of_eq (a := Value.none) (by first | rfl | (simp only [firstArgMember]; rfl)) ?_)
  refine wpAny_newObj_type ?_ (by size_fits)
  simp only [raiseNew]
  refine wpAny_bind (wpAny_handled ?_)
  rw [hh]
  refine wpAny_bind (wpAny_pure (wpAny_throw ?_))
  exact hE _ _ (fun c o q => Heap.get?_push_of_some _ (Heap.get?_push_of_some _ q)) ⟨_, Heap.get?_push_size _ rfl, rfl⟩
theorem zipS_next_end (hh : A.handled = none) {Q : Fin → Shared → Prop} (S : ZipSep2 z TI TO i1 i2 fp1 fp2) (D1 : Draws prog w A i1 fp1 n P1 St1) (D2 : Draws prog w A i2 fp2 n P2 St2)
    (hz : IsZipS s.heap z TI TO .none) (hTI : IsTupOf2 s.heap TI (.ref i1) (.ref i2)) (hTO : IsTupOf2 s.heap TO a1 a2) (st1 : St1 n s.heap) (st2 : St2 n s.heap)
    (hE : ∀ h' e, (∀ c o, c ≠ z → c ≠ TO → c ≠ i1 → c ≠ i2 → s.heap.get? c = some o → h'.get? c = some o) → (∃ o, h'.get? e = some o ∧ o.cls = .type "StopIteration") → E (.ref e) { s with heap := h' }) :
    wpAny (model prog w) A (Builtin.«zip.__next__» ⟨[.ref z], []⟩) Q E s := by
  obtain ⟨hp, g, d, tk0, os⟩ := s
  show wpAny _ _ (field (.ref z) 2 >>= _) _ _ _
  refine wpAny_bind (wpAny_field hz rfl (x := .bool true) rfl ?_)
  show wpAny _ _ (field (.ref z) 3 >>= _) _ _ _
  refine wpAny_bind (wpAny_field hz rfl (x := .ref TI) rfl ?_)
  refine wpAny_bind (wpAny_seqItems hTI rfl ?_)
  show wpAny _ _ (Builtin.SmallTypes.ownedTupleIsFree (.ref z) >>= _) _ _ _
  refine wpAny_bind ?_
  unfold Builtin.SmallTypes.ownedTupleIsFree
  refine wpAny_bind (wpAny_field hz rfl (x := .none) rfl (wpAny_pure ?_))
  simp only [if_true]
  refine wpAny_bind (wpAny_rule ?_)
  refine wpAny_bind (wpAny_field hz rfl (x := .ref TO) rfl ?_)
  refine wpAny_bind (wpAny_setField_rec hz (by simp) fun g0 hz0 hs0 => ?_)
  replace hz0 : IsZipS g0 z TI TO .ellipsis := hz0
  replace hs0 : Heap.SameBut z hp g0 := hs0
  refine wpAny_bind ?_
  simp only [List.zipIdx_cons, List.zipIdx_nil, List.forIn_cons, List.forIn_nil]
  refine wpAny_bind (wpAny_bind (wpAny_onRaise ?_))
  show wpAny _ _ (Builtin.SmallTypes.nextOrEnd (.ref i1)) _ _ ⟨g0, g, d, tk0, os⟩
  refine noe_end D1 (D1.over st1 hs0 S.zf1) fun p1 hp1 => ?_
  replace hp1 : Heap.ExtBut i1 g0 p1 := hp1
  have hz1 : IsZipS p1 z TI TO .ellipsis := hp1 _ _ S.zi1 hz0
  refine wpAny_bind (wpAny_setField_rec (s := ⟨p1, g, d, tk0, os⟩) hz1 (by simp) fun g1 _ hs1 => ?_)
  replace hs1 : Heap.SameBut z p1 g1 := hs1
  have k2 : St2 n g1 := D2.frame _ _ _ st2 fun b hb o e => by
    have hbz : b ≠ z := fun q => S.zf2 (q ▸ hb)
    have hb1 : b ≠ i1 := fun q => S.sep1_2 (q ▸ hb)
    exact hs1.extBut _ _ hbz (hp1 _ _ hb1 (hs0.extBut _ _ hbz e))
  refine wpAny_bind (wpAny_bind ?_)
  simp only [List.drop_succ_cons, List.drop_zero, List.zipIdx_cons, List.zipIdx_nil, List.forIn_cons, List.forIn_nil]
  refine wpAny_bind (wpAny_bind (noe_end (s := ⟨g1, g, d, tk0, os⟩) D2 k2 fun p2 hp2 => ?_))
  replace hp2 : Heap.ExtBut i2 g1 p2 := hp2
  refine wpAny_pure (wpAny_pure ?_)
  refine wpAny_bind (wpAny_rule ?_)
  refine stop_raised hh fun h' e hk he => ?_
  exact hE h' e (fun c o cz cT c1 c2 x => hk _ _ (hp2 _ _ c2 (hs1.extBut _ _ cz (hp1 _ _ c1 (hs0.extBut _ _ cz x))))) he
end
end PySem
set_option Elab.async false
set_option linter.all false
set_option maxRecDepth 100000
set_option maxHeartbeats 2000000
/-! Dz, part 2: zip(.., strict=True) called and walked. -/
namespace PySem
open Sem (wp)
section
variable {prog : Program} {w : World} {A : Around} {E : Value → Shared → Prop} {s : Shared} {z TI TO i1 i2 it : Addr} {fp fp1 fp2 : List Addr} {n n1 n2 i : Nat} {P P1 P2 : Nat → Value → Prop} {St St1 St2 : Nat → Heap → Prop} {a1 a2 : Value}
theorem pyNext_zipS_item {Q : Option Value → Shared → Prop} (S : ZipSep2 z TI TO i1 i2 fp1 fp2) (D1 : Draws prog w A.in1 i1 fp1 n1 P1 St1) (D2 : Draws prog w A.in1 i2 fp2 n2 P2 St2)
    (hz : IsZipS s.heap z TI TO .none) (hTI : IsTupOf2 s.heap TI (.ref i1) (.ref i2)) (hTO : IsTupOf2 s.heap TO a1 a2) (st1 : St1 i s.heap) (st2 : St2 i s.heap) (hlt1 : i < n1) (hlt2 : i < n2)
    (hQ : ∀ x1 x2 h' tk, P1 i x1 → P2 i x2 → IsZipS h' z TI TO (rawInt s.heap.objs.size) → IsTupOf2 h' TO x1 x2 → St1 (i + 1) h' → St2 (i + 1) h' → IsTupOf2 h' s.heap.objs.size x1 x2 → h'.objs.size = s.heap.objs.size + 1 →
      (∀ c o, c ≠ z → c ≠ TO → c ≠ i1 → c ≠ i2 → s.heap.get? c = some o → h'.get? c = some o) → Q (some (.ref s.heap.objs.size)) { s with heap := h', toks := tk }) :
    wpAny (model prog w) A (pyNext (.ref z)) Q E s := by
  have hT : s.TypeIs (.ref z) "zip" := ⟨_, hz, rfl⟩
  unfold pyNext
  exact wpAny_bind (wpAny_attempt (wpAny_callSpecial?_slot (name := Str.ofString "__next__") hT F.slot_zip_next
    (wpAny_call_entry F.slot_zip_next hT F.entry_zip_next
      (zipS_next_item S D1 D2 hz hTI hTO st1 st2 hlt1 hlt2 fun x1 x2 h' tk y1 y2 b1 b2 d1 d2 b5 b6 b7 => wpAny_pure (hQ x1 x2 h' tk y1 y2 b1 b2 d1 d2 b5 b6 b7)) (F.args_zip_next_1 _))))
theorem pyNext_zipS_end {Q : Option Value → Shared → Prop} (hh : A.handled = none) (S : ZipSep2 z TI TO i1 i2 fp1 fp2) (D1 : Draws prog w A.in1 i1 fp1 n P1 St1) (D2 : Draws prog w A.in1 i2 fp2 n P2 St2)
    (hz : IsZipS s.heap z TI TO .none) (hTI : IsTupOf2 s.heap TI (.ref i1) (.ref i2)) (hTO : IsTupOf2 s.heap TO a1 a2) (st1 : St1 n s.heap) (st2 : St2 n s.heap)
    (hQ : ∀ h', (∀ c o, c ≠ z → c ≠ TO → c ≠ i1 → c ≠ i2 → s.heap.get? c = some o → h'.get? c = some o) → Q none { s with heap := h' }) : wpAny (model prog w) A (pyNext (.ref z)) Q E s := by
  have hT : s.TypeIs (.ref z) "zip" := ⟨_, hz, rfl⟩
  unfold pyNext
  refine wpAny_bind (wpAny_attempt (wpAny_callSpecial?_slot (name := Str.ofString "__next__") hT F.slot_zip_next
    (wpAny_call_entry F.slot_zip_next hT F.entry_zip_next (zipS_next_end (A := A.in1) (show A.in1.handled = none from hh) S D1 D2 hz hTI hTO st1 st2 fun h' e hk he => ?_) (F.args_zip_next_1 _))))
  obtain ⟨o, ho, hc⟩ := he
  refine wpAny_bind (wpAny_isInstance (T := "StopIteration") (b := true) ⟨o, ho, hc⟩ isSubtype_stop ?_)
  exact wpAny_pure (hQ _ hk)
theorem letGo_zipS {elts : List Expr} {x1} {pos : Pos} {T : Addr} {Q : Unit → Shared → Prop} (hz : IsZipS s.heap z TI TO (rawInt T))
    (hQ : ∀ h', IsZipS h' z TI TO .none → Heap.SameBut z s.heap h' → Q () { s with heap := h' }) :
    wpAny (model prog w) A (letOwnedTupleGo (.Tuple elts x1 pos) (.ref z) (.ref T)) Q E s := by
  unfold letOwnedTupleGo
  refine wpAny_bind (wpAny_load hz ?_)
  show wpAny _ _ (if (["enumerate", "zip", "dict_itemiterator", "dict_reverseitemiterator", "odict_iterator", "itertools.zip_longest", "itertools.pairwise"].contains "zip" &&
      (#[rawInt T, .bool false, .bool true, .ref TI, .ref TO] : Array Value)[0]? == some (rawInt T)) = true then _ else _) Q E s
  rw [if_pos (by simp)]
  refine wpAny_bind (wpAny_rule ?_)
  show wpAny _ _ (setField (.ref z) 0 .none) Q E s
  exact wpAny_setField_rec hz (by simp) fun h' hz' hs' => hQ h' hz' hs'
theorem pyIter_zipS {f0 : Value} {Q : Value → Shared → Prop} (hz : IsZipS s.heap z TI TO f0) (h : Q (.ref z) s) : wpAny (model prog w) A (pyIter (.ref z)) Q E s := by
  have hT : s.TypeIs (.ref z) "zip" := ⟨_, hz, rfl⟩
  refine wpAny_pyIter_slot hT F.slot_zip_iter (wpAny_call_entry F.slot_zip_iter hT F.entry_zip_iter ?_ (F.args_zip_iter_1 _))
  show wpAny _ _ (ret (.ref z)) _ _ s
  exact wpAny_pure ⟨_, rfl, "zip", _, hT, F.slot_zip_next.lookup, h⟩
end
theorem callWith_typeK {M : Model} {A : Around} {E : Value → Shared → Prop} {s : Shared} {pos : Pos} {T : String} {first : List Value} {args : List (Bool × Sem Value)} {keywords : List (Option Str × Sem Value)} {Q : Value → Shared → Prop}
    (hplain : args.any (·.1) = false) (hkw : keywords.any (·.1.isNone) = false)
    (h : wpAny M A (evalArgs (.type T) true args keywords) (fun a s₁ => wpAny M A (call (.type T) (first ++ a.pos) a.kw) Q E s₁) E s) :
    wpAny M A (callWith pos (.type T) first args keywords) Q E s := by
  unfold callWith
  refine wpAny_bind (wpAny_holding (wpAny_mono h (fun a s₁ h₁ => wpAny_bind (wpAny_standAt ?_)) fun _ _ x => x))
  simp only [hplain, hkw, Bool.or_false]
  refine wpAny_bind (wpAny_pure ?_)
  exact wpAny_bind (wpAny_mono h₁ (fun r s₂ hr => wpAny_bind (wpAny_holding (wpAny_point (wpAny_pure hr)))) fun _ _ x => x)
namespace F
theorem typeCall_zip_strict (a b c : Value) : checkTypeCall "zip" ⟨[a, b], [(Str.ofString "strict", c)]⟩ = pure () := by kernel_rfl
theorem newCall_zip_strict (a b c : Value) : checkBuiltinCall "zip.__new__" ⟨[.type "zip", a, b], [(Str.ofString "strict", c)]⟩ = pure () := by kernel_rfl
theorem args_object_init_zs (obj a b c : Value) : argsOk "object.__init__" ⟨[obj, a, b], [(Str.ofString "strict", c)]⟩ := by unfold argsOk; kernel_rfl
end F
abbrev gzZS (h : Heap) (o1 o2 : Obj) : Heap := (gzO2 h o1 o2).push { cls := .type "zip", data := .fields #[.none, .bool false, .bool true, .ref ((h.push o1).push o2).objs.size, .ref (gzT2 h o1 o2).objs.size] }
theorem meets_zip_newS {v1 v2 : Value} {o1 o2 : Obj} {H1 H2 : Heap → Prop} (B1 : Begins v1 o1 H1) (B2 : Begins v2 o2 H2) :
    Meets (Builtin.«zip.__new__» ⟨[.type "zip", v1, v2], [(Str.ofString "strict", .bool true)]⟩) (fun _ R s => (H1 s.heap ∧ H2 s.heap) ∧
      R (.ok (.ret (.ref (gzO2 s.heap o1 o2).objs.size))) { s with heap := gzZS s.heap o1 o2 }) :=
  .of_wp fun prog w A R s h => by
    obtain ⟨hp, g, d, tk, os⟩ := s; obtain ⟨⟨h1, h2⟩, h⟩ := h
    have hsub := sub_zip
    have q1 : ∀ {A' : Around} {E : Value → Shared → Prop} {Q : Value → Shared → Prop}, Q (.ref hp.objs.size) ⟨(hp.push o1), g, d, tk, os⟩ → wpAny (model prog w) A' (pyIter v1) Q E ⟨hp, g, d, tk, os⟩ :=
      fun q => B1.iter prog w _ _ ⟨hp, g, d, tk, os⟩ _ (B1.keeps _ _ h1 fun b o' e => e) q
    have q2 : ∀ {A' : Around} {E : Value → Shared → Prop} {Q : Value → Shared → Prop}, Q (.ref (hp.push o1).objs.size) ⟨((hp.push o1).push o2), g, d, tk, os⟩ → wpAny (model prog w) A' (pyIter v2) Q E ⟨(hp.push o1), g, d, tk, os⟩ :=
      fun q => B2.iter prog w _ _ ⟨(hp.push o1), g, d, tk, os⟩ _ (B2.keeps _ _ h2 fun b o' e => (Heap.get?_push_of_some _ e)) q
    have e1 : (Str.ofString "strict" == ("strict" : Str)) = true := by decide +kernel
    have e2 : (Str.ofString "strict" != ("strict" : Str)) = false := by decide +kernel
    wp_walk using q1, q2
    exact ⟨_, rfl, h⟩
end PySem
set_option Elab.async false
set_option linter.all false
set_option maxRecDepth 100000
set_option maxHeartbeats 2000000
/-! Dz, part 3: sequences of either kind walked in zip and enumerate. -/
namespace PySem
section
variable {prog : Program} {w : World} {A : Around} {E : Value → Shared → Prop} {s : Shared}
theorem zip_beginsS {v1 v2 : Value} {o1 o2 : Obj} {H1 H2 : Heap → Prop} {Q : Value → Shared → Prop} (B1 : Begins v1 o1 H1) (B2 : Begins v2 o2 H2) (h1 : H1 s.heap) (h2 : H2 s.heap)
    (h : ∀ h', IsZipS h' (s.heap.objs.size + 4) (s.heap.objs.size + 2) (s.heap.objs.size + 3) .none → IsTupOf2 h' (s.heap.objs.size + 2) (.ref s.heap.objs.size) (.ref (s.heap.objs.size + 1)) →
      IsTupOf2 h' (s.heap.objs.size + 3) .none .none → h'.get? s.heap.objs.size = some o1 → h'.get? (s.heap.objs.size + 1) = some o2 → h'.objs.size = s.heap.objs.size + 5 →
      (∀ c o, s.heap.get? c = some o → h'.get? c = some o) → Q (.ref (s.heap.objs.size + 4)) { s with heap := h' }) :
    wpAny (model prog w) A (call (.type "zip") [v1, v2] [(Str.ofString "strict", .bool true)]) Q E s := by
  refine callType_newKw F.called_zip (by decide) (F.typeCall_zip_strict _ _ _) (F.newCall_zip_strict _ _ _) (fun obj => F.args_object_init_zs obj _ _ _) F.entry_zip_new
    (meets_zip_newS B1 B2) ⟨⟨h1, h2⟩, ?_⟩
  have z1 : (s.heap.push o1).objs.size = s.heap.objs.size + 1 := by rw [Heap.size_push]
  have z2 : ((s.heap.push o1).push o2).objs.size = s.heap.objs.size + 2 := by rw [Heap.size_push, z1]
  have zT : (gzT2 s.heap o1 o2).objs.size = s.heap.objs.size + 3 := by rw [Heap.size_push, z2]
  have zO : (gzO2 s.heap o1 o2).objs.size = s.heap.objs.size + 4 := by rw [Heap.size_push, zT]
  have zZ : (gzZS s.heap o1 o2).objs.size = s.heap.objs.size + 5 := by rw [Heap.size_push, zO]
  have gZ : (gzZS s.heap o1 o2).get? (gzO2 s.heap o1 o2).objs.size = some { cls := .type "zip", data := .fields #[.none, .bool false, .bool true, .ref ((s.heap.push o1).push o2).objs.size, .ref (gzT2 s.heap o1 o2).objs.size] } := Heap.get?_push_size _ rfl
  have gO : (gzZS s.heap o1 o2).get? (gzT2 s.heap o1 o2).objs.size = some { cls := .type "tuple", data := .seq #[.none, .none] } := Heap.get?_push_of_some _ (Heap.get?_push_size _ rfl)
  have gT : (gzZS s.heap o1 o2).get? ((s.heap.push o1).push o2).objs.size = some { cls := .type "tuple", data := .seq #[.ref s.heap.objs.size, .ref (s.heap.push o1).objs.size] } := Heap.get?_push_of_some _ (Heap.get?_push_of_some _ (Heap.get?_push_size _ rfl))
  have g1 : (gzZS s.heap o1 o2).get? s.heap.objs.size = some o1 := Heap.get?_push_of_some _ (Heap.get?_push_of_some _ (Heap.get?_push_of_some _ (Heap.get?_push_of_some _ (Heap.get?_push_size _ B1.free))))
  have g2 : (gzZS s.heap o1 o2).get? (s.heap.push o1).objs.size = some o2 := Heap.get?_push_of_some _ (Heap.get?_push_of_some _ (Heap.get?_push_of_some _ (Heap.get?_push_size _ B2.free)))
  rw [zO, zT, z2] at gZ
  rw [zT] at gO
  rw [z2, z1] at gT
  rw [z1] at g2
  show _ ∧ _
  rw [zO]
  exact ⟨⟨_, gZ, rfl⟩, h _ gZ gT gO g1 g2 zZ fun c o e => Heap.get?_push_of_some _ (Heap.get?_push_of_some _ (Heap.get?_push_of_some _ (Heap.get?_push_of_some _ (Heap.get?_push_of_some _ e))))⟩
end
end PySem
namespace Dk
open PySem PySem.Spec PyProof.Rows L2
def SqC (K : Fg) (H : Hp) : Bool → Addr → List V → Prop
  | true, a, xs => SqT K H a xs
  | false, a, xs => SqL K H a xs
def ItC (h : Heap) : Bool → Addr → Addr → Nat → Prop
  | true, it, a, i => h.IsTupleIter it a i
  | false, it, a, i => h.IsListIter it a i
def StC (h : Heap) : Bool → Addr → Array Value → Prop
  | true, a, xs => h.IsTuple a xs
  | false, a, xs => h.IsList a xs
def objC : Bool → Addr → Obj
  | true, a => { cls := .type "tuple_iterator", data := .fields #[.ref a, .int 0 0] }
  | false, a => { cls := .type "list_iterator", data := .fields #[.ref a, .int 0 0] }
theorem begC (c : Bool) (a : Addr) (xs : Array Value) : Begins (.ref a) (objC c a) fun h => StC h c a xs := by
  cases c
  · exact begins_list a xs
  · exact begins_tuple a xs
theorem drawsC {prog : Program} {w : World} {A : Around} (hh : A.handled = none) (c : Bool) (it a : Addr) (hne : a ≠ it) (xs : Array Value) :
    Draws prog w A it [it, a] xs.size (fun i v => xs[i]? = some v) (fun i h => ItC h c it a i ∧ StC h c a xs) := by
  cases c
  · exact Draws.list hh it a hne xs
  · exact Draws.tuple hh it a hne xs
theorem itC0 {c : Bool} {h : Heap} {it a : Addr} (e : h.get? it = some (objC c a)) : ItC h c it a 0 := by
  cases c
  · exact ⟨_, e, rfl, rfl⟩
  · exact ⟨_, e, rfl, rfl⟩
theorem ItC.at {c : Bool} {h h' : Heap} {it a : Addr} {i : Nat} (H : ItC h c it a i) (k : ∀ o, h.get? it = some o → h'.get? it = some o) : ItC h' c it a i := by
  cases c
  · exact Heap.IsListIter.at H k
  · exact Heap.IsTupleIter.at H k
theorem ItC.obj {c : Bool} {h : Heap} {it a : Addr} {i : Nat} (H : ItC h c it a i) : ∃ o, h.get? it = some o ∧ ∀ v, o.data ≠ .cell v := by
  cases c
  · obtain ⟨o, e, _, d⟩ := H
    exact ⟨o, e, fun v q => by rw [d] at q; cases q⟩
  · obtain ⟨o, e, _, d⟩ := H
    exact ⟨o, e, fun v q => by rw [d] at q; cases q⟩
theorem seqC {X : Cx} {pins : List (Addr × Obj)} {σ : L2.St} {H : Hp} {s : Shared} (I : L2.Inv X pins σ H s) {c : Bool} {a : Addr} {xs : List V} (h : SqC X.K H c a xs) : ∃ its : List Value, Vals xs its ∧ StC s.heap c a its.toArray ∧ a < s.heap.objs.size := by
  cases c
  · obtain ⟨its, rv, p, _⟩ := I.list h
    exact ⟨its, rv, p.isList, p.lt⟩
  · obtain ⟨its, rv, p, _⟩ := I.tuple h
    obtain ⟨o, ho, _⟩ := id p
    exact ⟨its, rv, p, Heap.lt_size ho⟩
theorem seqC_inj {X : Cx} {pins : List (Addr × Obj)} {σ : L2.St} {H : Hp} {s : Shared} (I : L2.Inv X pins σ H s) {c : Bool} {a : Addr} {xs ys : List V} (h : SqC X.K H c a xs) (h' : SqC X.K H c a ys) : xs = ys := by
  cases c
  · exact I.list_inj h h'
  · exact I.tuple_inj h h'
/-! ### zip -/
def IsZ (st : Bool) (h : Heap) (z TI TO : Addr) (f0 : Value) : Prop := h.get? z = some { cls := .type "zip", data := .fields #[f0, .bool false, .bool st, .ref TI, .ref TO] }
structure Apart2 (z TI TO i1 i2 a b : Addr) : Prop where
  sep : ZipSep2 z TI TO i1 i2 [i1, a] [i2, b]
  a1 : a ≠ i1
  b2 : b ≠ i2
/-- the sequences at a and b as they stand at each turn, the items in new pairs; st: of one length -/
def ItZ (K : Fg) (st : Bool) (c1 c2 : Bool) (a b : Addr) : It :=
  ⟨fun i H => ∃ (xs ys : List V) (x y : V), SqC K H c1 a xs ∧ SqC K H c2 b ys ∧ xs[i]? = some x ∧ ys[i]? = some y,
    fun i H v H' => ∃ T x y, v = .ref T ∧ H T = none ∧ H' = upd H T (.tup [x, y]) ∧ (∀ xs, SqC K H c1 a xs → xs[i]? = some x) ∧ ∀ ys, SqC K H c2 b ys → ys[i]? = some y,
    fun i H => ∃ xs ys : List V, SqC K H c1 a xs ∧ SqC K H c2 b ys ∧ i ≤ xs.length ∧ i ≤ ys.length ∧ (i = xs.length ∨ i = ys.length) ∧ (st = true → i = xs.length ∧ i = ys.length)⟩
theorem turn_z {P : Program} {w : World} {K : Fg} {elts : List Expr} {kk : Nat} {tpos : Pos} {st c1 c2 : Bool} {a b z TI TO i1 i2 : Addr} (D : Apart2 z TI TO i1 i2 a b) :
    Turn P w K (.Tuple elts kk tpos) (ItZ K st c1 c2 a b) [z, TI, TO, i1, i2] z (fun i h => IsZ st h z TI TO .none ∧ IsTupOf2 h TI (.ref i1) (.ref i2) ∧ (∃ x y, IsTupOf2 h TO x y) ∧ ItC h c1 i1 a i ∧ ItC h c2 i2 b i) where
  mem := by simp
  obj := fun i h stt c hc => by
    obtain ⟨hz, hTI, ⟨x, y, hTO⟩, h1, h2⟩ := stt
    have e' : c = z ∨ c = TI ∨ c = TO ∨ c = i1 ∨ c = i2 := by simpa using hc
    rcases e' with q | q | q | q | q
    · rw [q]; exact ⟨_, hz, fun v q => nomatch q⟩
    · rw [q]; exact ⟨_, hTI, fun v q => nomatch q⟩
    · rw [q]; exact ⟨_, hTO, fun v q => nomatch q⟩
    · rw [q]; exact h1.obj
    · rw [q]; exact h2.obj
  keep := fun i h h' stt k => by
    obtain ⟨hz, hTI, ⟨x, y, hTO⟩, h1, h2⟩ := stt
    exact ⟨k z (by simp) _ hz, k TI (by simp) _ hTI, ⟨x, y, k TO (by simp) _ hTO⟩, h1.at fun o q => k i1 (by simp) o q, h2.at fun o q => k i2 (by simp) o q⟩
  item := by
    intro X hP hw hK hc i pins s σ H E I hf stt hg
    subst hP hw hK
    obtain ⟨hz, hTI, ⟨x0, y0, hTO⟩, h1, h2⟩ := stt
    obtain ⟨xs, ys, x, y, hqx, hqy, hx, hy⟩ := hg
    obtain ⟨its, rv, p, _⟩ := seqC I hqx
    obtain ⟨its2, rv2, p2, _⟩ := seqC I hqy
    obtain ⟨u, hu, ru⟩ := rv.get hx
    obtain ⟨u2, hu2, ru2⟩ := rv2.get hy
    have hzl : z < s.heap.objs.size := Heap.lt_size hz
    have hh : X.A.in1.handled = none := I.ok.hd hc
    have D1 := drawsC (prog := X.prog) (w := X.w) hh c1 i1 a D.a1 its.toArray
    have D2 := drawsC (prog := X.prog) (w := X.w) hh c2 i2 b D.b2 its2.toArray
    have hi1 : i < its.toArray.size := by simpa using (List.getElem?_eq_some_iff.mp hu).1
    have hi2 : i < its2.toArray.size := by simpa using (List.getElem?_eq_some_iff.mp hu2).1
    have S := D.sep
    have fin : ∀ (h' : Heap) (tk : Tok) (x1 x2 : Value), its.toArray[i]? = some x1 → its2.toArray[i]? = some x2 → IsZ st h' z TI TO (rawInt s.heap.objs.size) → IsTupOf2 h' TO x1 x2 → ItC h' c1 i1 a (i + 1) → ItC h' c2 i2 b (i + 1) → IsTupOf2 h' s.heap.objs.size x1 x2 →
        (∀ c o, c ≠ z → c ≠ TO → c ≠ i1 → c ≠ i2 → s.heap.get? c = some o → h'.get? c = some o) → ∃ v, some (Value.ref s.heap.objs.size) = some v ∧
          wpAny (model X.prog X.w) X.A (letOwnedTupleGo (.Tuple elts kk tpos) (.ref z) v) (fun _ s2 => ∃ x H', L2.Inv X pins σ H' s2 ∧ RelV x v ∧ (ItZ X.K st c1 c2 a b).yld i H x H' ∧ (IsZ st s2.heap z TI TO .none ∧ IsTupOf2 s2.heap TI (.ref i1) (.ref i2) ∧ (∃ x y, IsTupOf2 s2.heap TO x y) ∧ ItC s2.heap c1 i1 a (i + 1) ∧ ItC s2.heap c2 i2 b (i + 1)) ∧ ∀ b ∈ [z, TI, TO, i1, i2], H' b = none) E { s with heap := h', toks := tk } := by
      intro h' tk x1 x2 hx1 hx2 z' TO' j1 j2 hT hk
      have e1 : x1 = u := by rw [List.getElem?_toArray, hu] at hx1; cases hx1; rfl
      have e2 : x2 = u2 := by rw [List.getElem?_toArray, hu2] at hx2; cases hx2; rfl
      subst e1 e2
      refine ⟨_, rfl, ?_⟩
      have go : ∀ (h'' : Heap), IsZ st h'' z TI TO .none → Heap.SameBut z h' h'' → ∃ x H', L2.Inv X pins σ H' { s with heap := h'', toks := tk } ∧ RelV x (Value.ref s.heap.objs.size) ∧ (ItZ X.K st c1 c2 a b).yld i H x H' ∧ (IsZ st h'' z TI TO .none ∧ IsTupOf2 h'' TI (.ref i1) (.ref i2) ∧ (∃ x y, IsTupOf2 h'' TO x y) ∧ ItC h'' c1 i1 a (i + 1) ∧ ItC h'' c2 i2 b (i + 1)) ∧ ∀ b ∈ [z, TI, TO, i1, i2], H' b = none := by
        intro h'' z'' sb
        have hT2 : h''.get? s.heap.objs.size = some { cls := .type "tuple", data := .seq #[x1, x2] } := (sb.2 _ (Nat.ne_of_gt hzl)).trans hT
        have new : ObjOk X.prog X.w (upd H s.heap.objs.size (.tup [x, y])) h'' s.heap.objs.size (.tup [x, y]) :=
          ⟨by show 2 ≤ sizeLine; decide, [x1, x2], .cons ru (.cons ru2 .nil), ⟨_, hT2, rfl, _, rfl⟩⟩
        have I1 : L2.Inv X pins σ (upd H s.heap.objs.size (.tup [x, y])) { s with heap := h'', toks := tk } :=
          I.turnedNew (t' := tk) (ch := [z, TI, TO, i1, i2]) (fun c o hb q => (sb.2 c (fun q' => hb (by simp [q']))).trans (hk c o (fun q' => hb (by simp [q'])) (fun q' => hb (by simp [q'])) (fun q' => hb (by simp [q'])) (fun q' => hb (by simp [q'])) q)) hf (Nat.le_refl _) new
        refine ⟨.ref s.heap.objs.size, _, I1, rfl, ⟨_, x, y, rfl, I.hok.fresh (Nat.le_refl _), rfl, fun l hl => by rw [seqC_inj I hl hqx]; exact hx, fun l hl => by rw [seqC_inj I hl hqy]; exact hy⟩, ⟨z'', ?_, ⟨x1, x2, ?_⟩, ?_, ?_⟩, fun c hcm => ?_⟩
        · exact (sb.2 _ S.TIz).trans (hk _ _ S.TIz S.TITO S.TIi1 S.TIi2 hTI)
        · exact (sb.2 _ S.TOz).trans TO'
        · exact j1.at fun o q => (sb.2 _ S.zi1.symm).trans q
        · exact j2.at fun o q => (sb.2 _ S.zi2.symm).trans q
        · have hlt : c < s.heap.objs.size := by
            have e' : c = z ∨ c = TI ∨ c = TO ∨ c = i1 ∨ c = i2 := by simpa using hcm
            rcases e' with q | q | q | q | q
            · rw [q]; exact hzl
            · rw [q]; exact Heap.lt_size hTI
            · rw [q]; exact Heap.lt_size hTO
            · rw [q]; obtain ⟨_, e1, _⟩ := h1.obj; exact Heap.lt_size e1
            · rw [q]; obtain ⟨_, e2, _⟩ := h2.obj; exact Heap.lt_size e2
          rw [upd_ne (Nat.ne_of_lt hlt)]
          exact (hf c hcm).1
      cases st
      · exact wpAny_letOwnedTupleGo_zip (s := { s with heap := h', toks := tk }) z' fun h'' z'' sb => go h'' z'' sb
      · exact letGo_zipS (s := { s with heap := h', toks := tk }) z' fun h'' z'' sb => go h'' z'' sb
    cases st
    · exact wpAny_pyNext_zipD2_item S D1 D2 hz hTI hTO ⟨h1, p⟩ ⟨h2, p2⟩ hi1 hi2 fun x1 x2 h' tk hx1 hx2 z' TO' s1 s2 hT _ hk => fin h' tk x1 x2 hx1 hx2 z' TO' s1.1 s2.1 hT hk
    · exact pyNext_zipS_item S D1 D2 hz hTI hTO ⟨h1, p⟩ ⟨h2, p2⟩ hi1 hi2 fun x1 x2 h' tk hx1 hx2 z' TO' s1 s2 hT _ hk => fin h' tk x1 x2 hx1 hx2 z' TO' s1.1 s2.1 hT hk
  done := by
    intro X hP hw hK hc i pins s σ H E I hf stt hg
    subst hP hw hK
    obtain ⟨hz, hTI, ⟨x0, y0, hTO⟩, h1, h2⟩ := stt
    obtain ⟨xs, ys, hqx, hqy, l1, l2, hend, hst⟩ := hg
    obtain ⟨its, rv, p, _⟩ := seqC I hqx
    obtain ⟨its2, rv2, p2, _⟩ := seqC I hqy
    have m1 : its.toArray.size = xs.length := by simp [rv.length]
    have m2 : its2.toArray.size = ys.length := by simp [rv2.length]
    have hh : X.A.in1.handled = none := I.ok.hd hc
    have D1 := drawsC (prog := X.prog) (w := X.w) hh c1 i1 a D.a1 its.toArray
    have D2 := drawsC (prog := X.prog) (w := X.w) hh c2 i2 b D.b2 its2.toArray
    have fin : ∀ (h' : Heap) (tk : Tok), (∀ c o, c ≠ z → c ≠ TO → c ≠ i1 → c ≠ i2 → s.heap.get? c = some o → h'.get? c = some o) → L2.Inv X pins σ H { s with heap := h', toks := tk } := fun h' tk hk =>
      I.turnedL (t' := tk) (ch := [z, TI, TO, i1, i2]) (fun c o hb q => hk c o (fun q' => hb (by simp [q'])) (fun q' => hb (by simp [q'])) (fun q' => hb (by simp [q'])) (fun q' => hb (by simp [q'])) q) hf
    cases st
    · exact wpAny_pyNext_zipD2_end D.sep D1 D2 hz hTI hTO ⟨h1, p⟩ ⟨h2, p2⟩ (by omega) (by omega) (by omega) fun h' tk hk => ⟨rfl, fin h' tk hk⟩
    · obtain ⟨e1, e2⟩ := hst rfl
      rw [m1, ← e1] at D1
      rw [m2, ← e2] at D2
      exact pyNext_zipS_end (I.ok.hd hc) D.sep D1 D2 hz hTI hTO ⟨h1, p⟩ ⟨h2, p2⟩ fun h' hk => ⟨rfl, fin h' s.toks hk⟩
  self := fun A i s Q E stt h => by
    cases st
    · exact wpAny_pyIter_zip stt.1 h
    · exact pyIter_zipS stt.1 h
end Dk
set_option Elab.async false
set_option linter.all false
set_option maxRecDepth 100000
set_option maxHeartbeats 2000000
/-! Dz, part 4: zip and enumerate over sequences of either kind, read over data. -/
namespace PySem
theorem meets_enumerate_newG {v : Value} {o : Obj} {H : Heap → Prop} (B : Begins v o H) :
    Meets (Builtin.«enumerate.__new__» ⟨[.type "enumerate", v], []⟩) (fun _ R s => H s.heap ∧
      R (.ok (.ret (.ref (s.heap.push o).objs.size))) { s with heap := (s.heap.push o).push { cls := .type "enumerate", data := .fields #[.none, .bool false, .ref s.heap.objs.size, rawInt 0, .none, .none] } }) :=
  .of_wp fun prog w A R s h => by
    obtain ⟨hp, g, d, tk, os⟩ := s; obtain ⟨h1, h⟩ := h
    have hsub := sub_enumerate
    have q1 : ∀ {A' : Around} {E : Value → Shared → Prop} {Q : Value → Shared → Prop}, Q (.ref hp.objs.size) ⟨hp.push o, g, d, tk, os⟩ → wpAny (model prog w) A' (pyIter v) Q E ⟨hp, g, d, tk, os⟩ :=
      fun q => B.iter prog w _ _ ⟨hp, g, d, tk, os⟩ _ h1 q
    wp_walk using q1
    refine wpAny_stack_any fun st => wpAny_pure ?_
    split
    · rename_i c _ _ _ _ _
      cases (c == Value.type "enumerate")
      · wp_walk using q1
        exact ⟨_, rfl, h⟩
      · wp_walk using q1
        exact ⟨_, rfl, h⟩
    · wp_walk using q1
      exact ⟨_, rfl, h⟩
section
variable {prog : Program} {w : World} {A : Around} {E : Value → Shared → Prop} {s : Shared}
theorem call_enumerateG {v : Value} {o : Obj} {H : Heap → Prop} {Q : Value → Shared → Prop} (B : Begins v o H) (h1 : H s.heap)
    (h : ∀ h', IsEnum h' (s.heap.objs.size + 1) s.heap.objs.size 0 .none → h'.get? s.heap.objs.size = some o → h'.objs.size = s.heap.objs.size + 2 →
      (∀ b o, s.heap.get? b = some o → h'.get? b = some o) → Q (.ref (s.heap.objs.size + 1)) { s with heap := h' }) :
    wpAny (model prog w) A (call (.type "enumerate") [v]) Q E s := by
  refine callType_new F.called_enumerate (by decide) (F.typeCall_enumerate_1 _) (F.newCall_enumerate_1 _) (fun obj => F.args_object_init_2 obj _) F.entry_enumerate_new
    (meets_enumerate_newG B) ⟨h1, ?_⟩
  have hz : (s.heap.push o).objs.size = s.heap.objs.size + 1 := Heap.size_push ..
  show _ ∧ _
  rw [hz]
  have he : IsEnum ((s.heap.push o).push { cls := .type "enumerate", data := .fields #[.none, .bool false, .ref s.heap.objs.size, rawInt 0, .none, .none] }) (s.heap.objs.size + 1) s.heap.objs.size 0 .none := by
    have := Heap.get?_push_size (s.heap.push o) (o := { cls := .type "enumerate", data := .fields #[.none, .bool false, .ref s.heap.objs.size, rawInt 0, .none, .none] }) rfl
    rw [hz] at this; exact this
  refine ⟨⟨_, he, rfl⟩, h _ he (Heap.get?_push_of_some _ (Heap.get?_push_size _ B.free)) (by rw [Heap.size_push, hz]) fun b o x => Heap.get?_push_of_some _ (Heap.get?_push_of_some _ x)⟩
end
end PySem
namespace Dk
open PySem PySem.Spec PyProof.Rows L2
variable {S : Type} [StK S]
/-! ### enumerate -/
def ItE (K : Fg) (c : Bool) (a : Addr) : It :=
  ⟨fun i H => ∃ (xs : List V) (x : V), SqC K H c a xs ∧ xs[i]? = some x, fun i H v H' => ∃ T x, v = .ref T ∧ H T = none ∧ H' = upd H T (.tup [.int (i : Nat), x]) ∧ ∀ xs, SqC K H c a xs → xs[i]? = some x, fun i H => ∃ xs : List V, SqC K H c a xs ∧ i = xs.length⟩
theorem turn_e {P : Program} {w : World} {K : Fg} {elts : List Expr} {kk : Nat} {tpos : Pos} {c : Bool} {a e it : Addr} (ha : a ≠ it) (hea : e ≠ a) :
    Turn P w K (.Tuple elts kk tpos) (ItE K c a) [e, it] e (fun i h => (∃ old, IsEnum h e it ((i : Nat) : Int) old) ∧ ItC h c it a i ∧ e ≠ it) where
  mem := by simp
  obj := fun i h st b hb => by
    obtain ⟨⟨old, he⟩, hi, _⟩ := st
    have e' : b = e ∨ b = it := by simpa using hb
    rcases e' with z | z
    · rw [z]; exact ⟨_, he, fun v q => nomatch q⟩
    · rw [z]; exact hi.obj
  keep := fun i h h' st k => let ⟨⟨old, he⟩, hi, hne⟩ := st; ⟨⟨old, k e (by simp) _ he⟩, hi.at fun o q => k it (by simp) o q, hne⟩
  item := by
    intro X hP hw hK hc i pins s σ H E I hf st hg
    subst hP hw hK
    obtain ⟨⟨old, he⟩, hit, hne⟩ := st
    obtain ⟨xs, x, hq, hx⟩ := hg
    obtain ⟨its, rv, p, _⟩ := seqC I hq
    obtain ⟨u, hu, ru⟩ := rv.get hx
    have hel : e < s.heap.objs.size := Heap.lt_size he
    have hil : it < s.heap.objs.size := by obtain ⟨_, q, _⟩ := hit.obj; exact Heap.lt_size q
    have D := drawsC (prog := X.prog) (w := X.w) (A := X.A.in1) (I.ok.hd hc) c it a ha its.toArray
    have hi : i < its.toArray.size := by simpa using (List.getElem?_eq_some_iff.mp hu).1
    refine wpAny_pyNext_enum_itemC D he ⟨hit, p⟩ hi hne (by simp [hne, hea]) fun x1 h' tk hx1 ho s1 hT hsz hk => ?_
    have e1 : x1 = u := by rw [List.getElem?_toArray, hu] at hx1; cases hx1; rfl
    subst e1
    refine ⟨_, rfl, wpAny_letOwnedTupleGo_enum (s := { s with heap := h', toks := tk + 1 }) ho fun h'' he' sb => ?_⟩
    have hT2 : h''.get? s.heap.objs.size = some { cls := .type "tuple", data := .seq #[.int i tk, x1] } := (sb.2 _ (Nat.ne_of_gt hel)).trans hT
    have new : ObjOk X.prog X.w (upd H s.heap.objs.size (.tup [.int (i : Nat), x])) h'' s.heap.objs.size (.tup [.int (i : Nat), x]) :=
      ⟨by show 2 ≤ sizeLine; decide, [.int i tk, x1], .cons ⟨_, rfl⟩ (.cons ru .nil), ⟨_, hT2, rfl, _, rfl⟩⟩
    have I1 : L2.Inv X pins σ (upd H s.heap.objs.size (.tup [.int (i : Nat), x])) { s with heap := h'', toks := tk + 1 } :=
      I.turnedNew (ch := [e, it]) (fun b ob hb q => (sb.2 b (fun z => hb (by simp [z]))).trans (hk b ob (fun z => hb (by simp [z])) (fun z => hb (by simp [z])) q)) hf (Nat.le_refl _) new
    refine ⟨.ref s.heap.objs.size, _, I1, rfl, ⟨_, x, rfl, I.hok.fresh (Nat.le_refl _), rfl, fun ys hy => by rw [seqC_inj I hy hq]; exact hx⟩, ⟨⟨x1, ?_⟩, s1.1.at fun o q => (sb.2 it (Ne.symm hne)).trans q, hne⟩, fun b hb => ?_⟩
    · have e1 : ((i + 1 : Nat) : Int) = (i : Int) + 1 := by omega
      rw [e1]; exact he'
    · have hb' : b < s.heap.objs.size := by
        have e' : b = e ∨ b = it := by simpa using hb
        rcases e' with z | z
        · rw [z]; exact hel
        · rw [z]; exact hil
      rw [upd_ne (Nat.ne_of_lt hb')]
      exact (hf b hb).1
  done := by
    intro X hP hw hK hc i pins s σ H E I hf st hg
    subst hP hw hK
    obtain ⟨⟨old, he⟩, hit, hne⟩ := st
    obtain ⟨xs, hq, hx⟩ := hg
    obtain ⟨its, rv, p, _⟩ := seqC I hq
    obtain ⟨f0, f1, f2, f3, f4, f5⟩ := hf it (by simp)
    have hl : its.toArray.size = xs.length := by simp [rv.length]
    have D := drawsC (prog := X.prog) (w := X.w) (A := X.A.in1) (I.ok.hd hc) c it a ha its.toArray
    rw [hl, ← hx] at D
    exact wpAny_pyNext_enum_endD D he ⟨hit, p⟩ fun h' eb => ⟨rfl, I.turned (t' := s.toks) (fun b o hb q => eb b o hb q) f0 f1 f3 f4 f5⟩
  self := fun A i s Q E st h => let ⟨⟨_, he⟩, _⟩ := st; wpAny_pyIter_enum he h
section
variable {X : Cx} {e e2 : Expr} {ta : TA} {p pos tpos : Pos} {elts : List Expr} {kk : Nat}
def iEnumC (K : Fg) (ta : TA) : TI := fun σ H R => ta σ H fun vs H1 => ∃ a c xs, vs = [.ref a] ∧ SqC K H1 c a xs ∧ R (ItE K c a) H1
theorem pi_e (hg : Gl X "enumerate") (hm : X.mg "enumerate" = none) (ha : PA X [e] ta) (hs : starEach [e] X.env = [(false, eval e X.env)] := by rfl) :
    PI X (.Tuple elts kk tpos) (.Call (.Name "enumerate" p) [e] [] pos) (iEnumC X.K ta) := by
  refine ⟨fun pins s σ H R I h => ?_⟩
  refine Call_ (ld_blt I hg hm boot_enumerate (PyProof.Rows.callWith_type1 (thn (ha.run pos pins s σ H _ I h) fun us s1 ⟨vs, H1, I1, r1, q1⟩ => ?_) hs rfl))
  obtain ⟨a, c, xs, ex, hq, q⟩ := q1
  subst ex
  cases r1 with
  | cons r rr =>
    cases rr
    cases r
    obtain ⟨its, rv, p', hlt⟩ := seqC I1 hq
    refine call_enumerateG (begC c a its.toArray) p' fun h' he hit hsz hk => wpAny_pyIter_enum he ?_
    have I2 : L2.Inv X pins σ H1 { s1 with heap := h' } := I1.kept (t' := s1.toks) hk
    refine ⟨s1.heap.objs.size + 1, [s1.heap.objs.size + 1, s1.heap.objs.size], _, _, H1, rfl, I2, turn_e (c := c) (a := a) (e := s1.heap.objs.size + 1) (it := s1.heap.objs.size) (Nat.ne_of_lt hlt) (Nat.ne_of_gt (Nat.lt_succ_of_lt hlt)), ⟨⟨.none, he⟩, itC0 hit, Nat.succ_ne_self _⟩, fun b hb => ?_, q⟩
    have e' : b = s1.heap.objs.size + 1 ∨ b = s1.heap.objs.size := by simpa using hb
    have hle : s1.heap.objs.size ≤ b := by
      rcases e' with z | z
      · rw [z]; exact Nat.le_add_right _ _
      · rw [z]; exact Nat.le_refl _
    exact I1.fpOk hle (I1.hok.fresh hle)
def iZipC (K : Fg) (st : Bool) (ta : TA) : TI := fun σ H R => ta σ H fun vs H1 => ∃ a b c1 c2 xs ys, vs = [.ref a, .ref b] ∧ SqC K H1 c1 a xs ∧ SqC K H1 c2 b ys ∧ R (ItZ K st c1 c2 a b) H1
theorem fresh5 {pins : List (Addr × Obj)} {σ : L2.St} {H : Hp} {s : Shared} (I : L2.Inv X pins σ H s) : ∀ c, c ∈ [s.heap.objs.size + 4, s.heap.objs.size + 2, s.heap.objs.size + 3, s.heap.objs.size, s.heap.objs.size + 1] → FpOk X pins H c := fun c hcm => by
  have e' : c = s.heap.objs.size + 4 ∨ c = s.heap.objs.size + 2 ∨ c = s.heap.objs.size + 3 ∨ c = s.heap.objs.size ∨ c = s.heap.objs.size + 1 := by simpa using hcm
  have hle : s.heap.objs.size ≤ c := by
    rcases e' with z | z | z | z | z
    · rw [z]; exact Nat.le_add_right _ _
    · rw [z]; exact Nat.le_add_right _ _
    · rw [z]; exact Nat.le_add_right _ _
    · rw [z]; exact Nat.le_refl _
    · rw [z]; exact Nat.le_add_right _ _
  exact I.fpOk hle (I.hok.fresh hle)
theorem apart_new {N a b : Nat} (ha : a < N) (hb : b < N) : Apart2 (N + 4) (N + 2) (N + 3) N (N + 1) a b :=
  ⟨zip_sep2 (fp1 := [a]) (fp2 := [b]) (by simp; exact ha) (by simp; exact hb), Nat.ne_of_lt ha, Nat.ne_of_lt (Nat.lt_succ_of_lt hb)⟩
theorem pi_z (hg : Gl X "zip") (hm : X.mg "zip" = none) (ha : PA X [e, e2] ta)
    (hs : starEach [e, e2] X.env = (false, eval e X.env) :: starEach [e2] X.env := by rfl) (hpl : (backTo pos (starEach [e2] X.env)).any (·.1) = false := by rfl) :
    PI X (.Tuple elts kk tpos) (.Call (.Name "zip" p) [e, e2] [] pos) (iZipC X.K false ta) := by
  refine ⟨fun pins s σ H R I h => ?_⟩
  refine Call_ (ld_blt I hg hm PyProof.Rows.boot_zip (PyProof.Rows.callWith_type1 (thn (ha.run pos pins s σ H _ I h) fun us s1 ⟨vs, H1, I1, r1, q1⟩ => ?_) hs hpl))
  obtain ⟨a, b, c1, c2, xs, ys, ex, hqx, hqy, q⟩ := q1
  subst ex
  cases r1 with
  | cons r rr =>
    cases rr with
    | cons r' rr =>
      cases rr
      cases r
      cases r'
      obtain ⟨its, rv, p1, l1⟩ := seqC I1 hqx
      obtain ⟨its2, rv2, p2, l2⟩ := seqC I1 hqy
      refine zip_begins2 (begC c1 a its.toArray) (begC c2 b its2.toArray) p1 p2 fun h' hz hTI hTO h1 h2 hsz hk => wpAny_pyIter_zip hz ?_
      have I2 : L2.Inv X pins σ H1 { s1 with heap := h' } := I1.kept (t' := s1.toks) hk
      exact ⟨s1.heap.objs.size + 4, [s1.heap.objs.size + 4, s1.heap.objs.size + 2, s1.heap.objs.size + 3, s1.heap.objs.size, s1.heap.objs.size + 1], _, _, H1, rfl, I2, turn_z (apart_new l1 l2), ⟨hz, hTI, ⟨_, _, hTO⟩, itC0 h1, itC0 h2⟩, fresh5 I1, q⟩
theorem pi_zS {j : Nat} {kp kp2 : Pos} (hg : Gl X "zip") (hm : X.mg "zip" = none) (ha : PA X [e, e2] ta)
    (he : backTo pos (starEach [e, e2] X.env) = (false, eval e X.env) :: backTo pos (starEach [e2] X.env) := by rfl) (hpl : (backTo pos (starEach [e, e2] X.env)).any (·.1) = false := by rfl) :
    PI X (.Tuple elts kk tpos) (.Call (.Name "zip" p) [e, e2] [⟨some (Str.ofString "strict"), .Constant (.bool true) j kp, kp2⟩] pos) (iZipC X.K true ta) := by
  refine ⟨fun pins s σ H R I h => ?_⟩
  refine wpAny_Call_Name_kw (ld_blt I hg hm PyProof.Rows.boot_zip ?_)
  refine callWith_typeK hpl rfl ?_
  have hk : PK X [⟨some (Str.ofString "strict"), .Constant (.bool true) j kp, kp2⟩] _ := pk_cons pe_bl pk_nil
  rw [he]
  refine evalArgs_kwB rfl ?_
  have hh := ha.run pos pins s σ H _ I h
  rw [he] at hh
  refine thn hh fun us s1 ⟨vs, H1, I1, r1, q1⟩ => ?_
  refine thn (hk.run pos pins s1 σ H1 (fun zs H2 => zs = [.bl true] ∧ H2 = H1) I1 ⟨rfl, rfl⟩) fun ws s2 ⟨zs, H2, I2, r2, q2⟩ => ?_
  obtain ⟨rfl, rfl⟩ := q2
  obtain ⟨a, b, c1, c2, xs, ys, ex, hqx, hqy, q⟩ := q1
  subst ex
  cases r2 with
  | cons w ww =>
    cases ww
    obtain rfl := w
    cases r1 with
    | cons r rr =>
      cases rr with
      | cons r' rr =>
        cases rr
        cases r
        cases r'
        obtain ⟨its, rv, p1, l1⟩ := seqC I2 hqx
        obtain ⟨its2, rv2, p2, l2⟩ := seqC I2 hqy
        refine zip_beginsS (begC c1 a its.toArray) (begC c2 b its2.toArray) p1 p2 fun h' hz hTI hTO h1 h2 hsz hk => pyIter_zipS hz ?_
        have I3 : L2.Inv X pins σ H2 { s2 with heap := h' } := I2.kept (t' := s2.toks) hk
        exact ⟨s2.heap.objs.size + 4, [s2.heap.objs.size + 4, s2.heap.objs.size + 2, s2.heap.objs.size + 3, s2.heap.objs.size, s2.heap.objs.size + 1], _, _, H2, rfl, I3, turn_z (apart_new l1 l2), ⟨hz, hTI, ⟨_, _, hTO⟩, itC0 h1, itC0 h2⟩, fresh5 I2, q⟩
end
end Dk
set_option Elab.async false
set_option linter.all false
set_option maxRecDepth 100000
set_option maxHeartbeats 2000000
/-! Dz, part 5: zip, enumerate as sources over data. -/
namespace Dk
open PySem PySem.Spec PyProof.Rows L2
variable {S : Type} [StK S]
def kindD : D → Option Bool
  | .list _ => some false
  | .tuple _ => some true
  | _ => none
def seqK : Bool → D → Option (List D)
  | false, .list ds => some ds
  | true, .tuple ds => some ds
  | _, _ => none
@[simp] theorem kindD_list {ds : List D} : kindD (.list ds) = some false := rfl
@[simp] theorem kindD_tuple {ds : List D} : kindD (.tuple ds) = some true := rfl
@[simp] theorem seqK_list {ds : List D} : seqK false (.list ds) = some ds := rfl
@[simp] theorem seqK_tuple {ds : List D} : seqK true (.tuple ds) = some ds := rfl
theorem seqK_some {c : Bool} {d : D} {ds : List D} (h : seqK c d = some ds) : (c = false ∧ d = .list ds) ∨ (c = true ∧ d = .tuple ds) := by
  unfold seqK at h
  split at h
  · cases h; exact .inl ⟨rfl, rfl⟩
  · cases h; exact .inr ⟨rfl, rfl⟩
  · cases h
section
variable {K : Fg} {H F : Hp} {d : D} {v : V} {c : Bool} {ds : List D}
theorem seqK_read (h : RdD K H F d v) (e : Le F H) (z : Szs H) (k : seqK c d = some ds) : ∃ a vs, v = .ref a ∧ SqC K H c a vs ∧ DRs K F ds vs ∧ ds.length ≤ sizeLine := by
  rcases seqK_some k with ⟨rfl, rfl⟩ | ⟨rfl, rfl⟩
  · obtain ⟨a, vs, h1, h2, h3⟩ := h.list e
    exact ⟨a, vs, h1, .inl (.inl h2), h3, by rw [← h3.len]; exact z.l h2⟩
  · obtain ⟨a, vs, h1, h2, h3⟩ := h.tuple e
    exact ⟨a, vs, h1, h2, h3, by rw [← h3.len]; exact z.t h2⟩
theorem kind_read (h : RdD K H F d v) (e : Le F H) (z : Szs H) (k : kindD d = some c) : ∃ a vs, v = .ref a ∧ SqC K H c a vs := by
  cases d with
  | list ds =>
    cases k
    obtain ⟨a, vs, h1, h2, _⟩ := seqK_read (c := false) (ds := ds) h e z rfl
    exact ⟨a, vs, h1, h2⟩
  | tuple ds =>
    cases k
    obtain ⟨a, vs, h1, h2, _⟩ := seqK_read (c := true) (ds := ds) h e z rfl
    exact ⟨a, vs, h1, h2⟩
  | _ => cases k
end
def enumL : Nat → List D → List D
  | _, [] => []
  | n, d :: ds => .tuple [.int n, d] :: enumL (n + 1) ds
theorem enumL_get : ∀ {ds : List D} {n i : Nat}, (enumL n ds)[i]? = (ds[i]?).map fun d => .tuple [.int (n + i : Nat), d]
  | [], n, i => by simp [enumL]
  | d :: ds, n, 0 => by simp [enumL]
  | d :: ds, n, i + 1 => by
    rw [enumL, List.getElem?_cons_succ, enumL_get, List.getElem?_cons_succ]
    rw [show n + 1 + i = n + (i + 1) by omega]
@[simp] theorem enumL_len : ∀ {ds : List D} {n : Nat}, (enumL n ds).length = ds.length
  | [], n => rfl
  | d :: ds, n => by rw [enumL, List.length_cons, enumL_len, List.length_cons]
def enumF (c : Bool) : List D → Option (List D)
  | [d] => (seqK c d).map (enumL 0)
  | _ => none
def pairL (xs ys : List D) : List D := List.zipWith (fun x y => .tuple [x, y]) xs ys
def zipF (st c1 c2 : Bool) : List D → Option (List D)
  | [d1, d2] => (seqK c1 d1).bind fun xs => (seqK c2 d2).bind fun ys => if st = true ∧ xs.length ≠ ys.length then none else some (pairL xs ys)
  | _ => none
section
variable {K : Fg}
theorem src_e {c : Bool} {a : Addr} : SrcOk K (ItE K c a) (enumF c) [.ref a] := by
  have inv : ∀ {ds items : List D}, enumF c ds = some items → ∃ d xs, ds = [d] ∧ seqK c d = some xs ∧ items = enumL 0 xs := fun {ds items} e => by
    unfold enumF at e
    split at e
    · obtain ⟨xs, h1, h2⟩ := Option.map_eq_some_iff.mp e
      exact ⟨_, xs, rfl, h1, h2.symm⟩
    · cases e
  refine ⟨fun H F ds items i d hz hF h e hi => ?_, fun H F ds items hz hF h e => ?_⟩
  · obtain ⟨d0, xs, rfl, h1, rfl⟩ := inv e
    obtain ⟨v, hv, h⟩ := h.one
    cases hv
    obtain ⟨a', vs, hv, hs, hr, _⟩ := seqK_read h hF hz h1
    cases hv
    rw [enumL_get] at hi
    obtain ⟨x, h2, h3⟩ := Option.map_eq_some_iff.mp hi
    obtain ⟨u, h4, h5⟩ := hr.get h2
    refine ⟨⟨vs, u, hs, h4⟩, fun y H' ⟨T, x', e1, e2, e3, e4⟩ => .inr ⟨T, [.int i, x], [.int i, x'], ?_, e1, e2, e3, ?_, by show 2 ≤ sizeLine; decide⟩⟩
    · rw [← h3]
      simp
    · have := e4 vs hs
      rw [h4] at this
      cases this
      exact .cons (DR.int_.mpr rfl) (.cons h5 .nil)
  · obtain ⟨d0, xs, rfl, h1, rfl⟩ := inv e
    obtain ⟨v, hv, h⟩ := h.one
    cases hv
    obtain ⟨a', vs, hv, hs, hr, hl⟩ := seqK_read h hF hz h1
    cases hv
    rw [enumL_len]
    exact ⟨⟨vs, hs, hr.len.symm⟩, hl⟩
theorem src_z {st c1 c2 : Bool} {a b : Addr} : SrcOk K (ItZ K st c1 c2 a b) (zipF st c1 c2) [.ref a, .ref b] := by
  have inv : ∀ {ds items : List D}, zipF st c1 c2 ds = some items → ∃ d1 d2 xs ys, ds = [d1, d2] ∧ seqK c1 d1 = some xs ∧ seqK c2 d2 = some ys ∧ (st = true → xs.length = ys.length) ∧ items = pairL xs ys := fun {ds items} e => by
    unfold zipF at e
    split at e
    · obtain ⟨xs, h1, h2⟩ := Option.bind_eq_some_iff.mp e
      obtain ⟨ys, h3, h4⟩ := Option.bind_eq_some_iff.mp h2
      split at h4
      · cases h4
      · rename_i hn
        cases h4
        exact ⟨_, _, xs, ys, rfl, h1, h3, fun hs => by
          by_cases q : xs.length = ys.length
          · exact q
          · exact absurd ⟨hs, q⟩ hn, rfl⟩
    · cases e
  refine ⟨fun H F ds items i d hz hF h e hi => ?_, fun H F ds items hz hF h e => ?_⟩
  · obtain ⟨d1, d2, xs, ys, rfl, h1, h2, _, rfl⟩ := inv e
    obtain ⟨v, u, hv, r1, r2⟩ := h.two
    cases hv
    obtain ⟨a', vs, hv, hs, hr, _⟩ := seqK_read r1 hF hz h1
    cases hv
    obtain ⟨b', us, hv, hs2, hr2, _⟩ := seqK_read r2 hF hz h2
    cases hv
    unfold pairL at hi
    rw [List.getElem?_zipWith_eq_some] at hi
    obtain ⟨x, y, e1, e2, e3⟩ := hi
    obtain ⟨u1, k1, k2⟩ := hr.get e1
    obtain ⟨u2, k3, k4⟩ := hr2.get e2
    refine ⟨⟨vs, us, u1, u2, hs, hs2, k1, k3⟩, fun y' H' ⟨T, x1, y1, f1, f2, f3, f4, f5⟩ => .inr ⟨T, [x, y], [x1, y1], e3.symm, f1, f2, f3, ?_, by show 2 ≤ sizeLine; decide⟩⟩
    have g1 := f4 vs hs
    rw [k1] at g1
    cases g1
    have g2 := f5 us hs2
    rw [k3] at g2
    cases g2
    exact .cons k2 (.cons k4 .nil)
  · obtain ⟨d1, d2, xs, ys, rfl, h1, h2, hl, rfl⟩ := inv e
    obtain ⟨v, u, hv, r1, r2⟩ := h.two
    cases hv
    obtain ⟨a', vs, hv, hs, hr, l1⟩ := seqK_read r1 hF hz h1
    cases hv
    obtain ⟨b', us, hv, hs2, hr2, l2⟩ := seqK_read r2 hF hz h2
    cases hv
    have m1 := hr.len
    have m2 := hr2.len
    have m : (pairL xs ys).length = min xs.length ys.length := by unfold pairL; rw [List.length_zipWith]
    refine ⟨⟨vs, us, hs, hs2, by omega, by omega, by omega, fun hst => ?_⟩, by omega⟩
    have := hl hst
    omega
end
section
variable {X : Cx} {a b : Expr} {t u : (OW S)} {ta : (AW S)} {p pos tpos kp kp2 : Pos} {elts : List Expr} {kk j : Nat}
def iEn (t : (AW S)) : (IW S) := fun ρ P => t ρ fun ks ρ1 => match ks with
  | [k] => gets ((k.rd ρ1).bind kindD) fun c => P ⟨[k], enumF c⟩ ρ1
  | _ => False
def iZp (st : Bool) (t : (AW S)) : (IW S) := fun ρ P => t ρ fun ks ρ1 => match ks with
  | [k, k2] => gets ((k.rd ρ1).bind kindD) fun c1 => gets ((k2.rd ρ1).bind kindD) fun c2 => P ⟨[k, k2], zipF st c1 c2⟩ ρ1
  | _ => False
theorem ci_enum (hm : X.mg "enumerate" = none) (ha : CA (S := S) X [a] ta) (hg : Gl X "enumerate" := by rfl) (hs : starEach [a] X.env = [(false, eval a X.env)] := by rfl) : CI (S := S) X (.Tuple elts kk tpos) (.Call (.Name "enumerate" p) [a] [] pos) (iEn ta) :=
  pi_mono (pi_e hg hm ha hs) fun σ H R ⟨B, pa, τ, F, ρ, θ, P, Rl, hl, h, q⟩ => by
    refine ⟨B, pa, τ, F, ρ, θ, _, Rl, hl, h, fun ks ρ1 vs H1 F1 h1 hl1 hk R1 s1 => ?_⟩
    cases ks with
    | nil => exact h1.elim
    | cons k ks =>
      cases ks with
      | cons _ _ => exact h1.elim
      | nil =>
        match vs, hk with
        | [v], _ =>
          obtain ⟨c, e, h1⟩ := gets_elim h1
          obtain ⟨d, e1, e2⟩ := Option.bind_eq_some_iff.mp e
          have hτ : τ.length = θ.length := by have := (R1.pops (by simp)).len; simp at this; omega
          have R2 : Rel X.K B pa (σ ++ (τ ++ [some v])) H1 F1 (ρ1.sl ++ (θ ++ [k.sl])) ρ1.pn := by
            have R3 := R1
            simp only [List.append_assoc] at R3
            exact R3
          have rd := read_at R2 hl1 τ.length (app_last _ _) (getN hτ.symm) (fun i q => s1 0 i v (by simp [q]) rfl) e1
          obtain ⟨a', xs, rfl, hs⟩ := kind_read rd R2.fh R2.sz e2
          exact ⟨a', c, xs, rfl, hs, q _ ρ1 [.ref a'] H1 F1 _ h1 hl1 rfl R1 s1 src_e⟩
theorem zip_step {K : Fg} {st : Bool} {ta : (AW S)} {σ : L2.St} {H : Hp} {R : It → Hp → Prop} (h : liftI K (iZp st ta) σ H R) : iZipC K st (liftA K ta) σ H R := by
  obtain ⟨B, pa, τ, F, ρ, θ, P, Rl, hl, h, q⟩ := h
  refine ⟨B, pa, τ, F, ρ, θ, _, Rl, hl, h, fun ks ρ1 vs H1 F1 h1 hl1 hk R1 s1 => ?_⟩
  match ks, vs, hk, h1, R1, s1 with
  | [k, k2], [v, v2], hk, h1, R1, s1 =>
    obtain ⟨c1, e, h1⟩ := gets_elim h1
    obtain ⟨c2, f, h1⟩ := gets_elim h1
    obtain ⟨d, e1, e2⟩ := Option.bind_eq_some_iff.mp e
    obtain ⟨d2, f1, f2⟩ := Option.bind_eq_some_iff.mp f
    have hτ : τ.length = θ.length := by have := (R1.pops (by simp)).len; simp at this; omega
    have R2 : Rel K B pa (σ ++ (τ ++ [some v, some v2])) H1 F1 (ρ1.sl ++ (θ ++ [k.sl, k2.sl])) ρ1.pn := by
      have R3 := R1
      simp only [List.append_assoc] at R3
      exact R3
    have rd := read_at R2 hl1 τ.length (by simp) (by rw [hτ]; simp) (fun i q => s1 0 i v (by simp [q]) rfl) e1
    have rd2 := read_at R2 hl1 (τ.length + 1) (by simp) (by rw [hτ]; simp) (fun i q => s1 1 i v2 (by simp [q]) rfl) f1
    obtain ⟨a', xs, rfl, hs⟩ := kind_read rd R2.fh R2.sz e2
    obtain ⟨b', ys, rfl, hs2⟩ := kind_read rd2 R2.fh R2.sz f2
    exact ⟨a', b', c1, c2, xs, ys, rfl, hs, hs2, q _ ρ1 _ H1 F1 _ h1 hl1 rfl R1 s1 src_z⟩
  | [], _, _, h1, _, _ => exact h1.elim
  | [_], _, _, h1, _, _ => exact h1.elim
  | _ :: _ :: _ :: _, _, _, h1, _, _ => exact h1.elim
theorem ci_zip (hm : X.mg "zip" = none) (ha : CA (S := S) X [a, b] ta) (hg : Gl X "zip" := by rfl) (hs : starEach [a, b] X.env = (false, eval a X.env) :: starEach [b] X.env := by rfl) (hpl : (backTo pos (starEach [b] X.env)).any (·.1) = false := by rfl) :
    CI (S := S) X (.Tuple elts kk tpos) (.Call (.Name "zip" p) [a, b] [] pos) (iZp false ta) := pi_mono (pi_z hg hm ha hs hpl) fun _ _ _ h => zip_step h
theorem ci_zipS (hm : X.mg "zip" = none) (ha : CA (S := S) X [a, b] ta) (hg : Gl X "zip" := by rfl) (he : backTo pos (starEach [a, b] X.env) = (false, eval a X.env) :: backTo pos (starEach [b] X.env) := by rfl) (hpl : (backTo pos (starEach [a, b] X.env)).any (·.1) = false := by rfl) :
    CI (S := S) X (.Tuple elts kk tpos) (.Call (.Name "zip" p) [a, b] [⟨some (Str.ofString "strict"), .Constant (.bool true) j kp, kp2⟩] pos) (iZp true ta) := pi_mono (pi_zS hg hm ha he hpl) fun _ _ _ h => zip_step h
end
end Dk
set_option Elab.async false
set_option linter.all false
set_option maxRecDepth 100000
set_option maxHeartbeats 2000000
/-! Dk, part 8: what the printed texts lean on. -/
namespace Dk
open PySem PySem.Spec PyProof.Rows L2
variable {S : Type} [StK S]
structure Dfn (K : Fg) (mg : Str → Option Value) (x : Str) (st : Stmt) (f : Addr) (fd : FuncData) : Prop where
  F : FunD K x x (defArgs st) (defBody st) (defScope st) [] [] f fd
  m : mg x = some (.ref f)
abbrev bltNames : List Str := ["len", "list", "tuple", "sum", "max", "min", "all", "any", "int", "abs", "repr", "isinstance", "range", "zip", "enumerate", "str", "bool", "dict", "set", "sorted"]
def Blt (mg : Str → Option Value) : Prop := ∀ x ∈ bltNames, mg x = none
theorem Blt.get {mg : Str → Option Value} (B : Blt mg) (x : Str) (h : x ∈ bltNames := by decide +kernel) : mg x = none := B x h
def oVal (t : (DW S)) : (OW S) := fun ρ P => t ρ fun r ρ' => P (.tmp (.val r.d)) ρ'
theorem co_val {X : Cx} {e : Expr} {t : (DW S)} (h : CE (S := S) X e t) : CO (S := S) X e (oVal t) := ce_cv h
def mkT (ds : List D) : Rs := .val (.tuple ds)
/-- THE RULE for a def, over data -/
theorem FnD.mkD {P : Program} {w : World} {K : Fg} {mg : Str → Option Value} {base : Heap} {x : Str} {st : Stmt} {f : Addr} {fd : FuncData} {N ps : List Str} {k : Nat} {dsp : DSp S} {t : (DS S)} (Fu : Dfn K mg x st f fd) (Sc : FnScope N ps (defScope st))
    (hbody : ∀ (cdv : Value) (A : Around) (outer : List Env) (s : Shared) (H : Hp) (E : XK), XO (cx0 P w K mg base N x (defScope st) f cdv A outer s H E) k → CSs (S := S) (cx0 P w K mg base N x (defScope st) f cdv A outer s H E) (defBody st) t)
    (hlaw : ∀ as pn Q, as.length = ps.length → dsp as pn Q → t { nx := fun ρ => Q .none ρ.pn, rt := Q } ⟨startD N.length as, pn⟩) : FnD P w K mg base (k + 1) f fd ps dsp := by
  obtain ⟨oc, od, dV, kV, doc, pm, an, cdv, ct, osl, rfl, lk, hcd, hD, _⟩ := Fu.F.ex
  refine fng_of lk hcd Sc (fun vs H Q E ⟨F, pa, T, as, pn, P, _, _, h, _, _, hl, _⟩ => by rw [h.len, hl]) fun A outer s H vs Q E hr hgd hsp => ?_
  obtain ⟨F, pa, T, as, pn, PQ, hz, hF, ha, hp, hpl', hl, hd, q⟩ := hsp
  have X0 : XO (cx0 P w K mg base N x (defScope st) f cdv A outer s H E) k := ⟨rfl, hr, hgd, Sc.nd, PassesOwn.never⟩
  refine ⟨_, (hbody cdv A outer s H E X0).nox, ⟨H, F, T⟩, pa, [], F, ⟨startD N.length as, pn⟩, [], _, by
    have h := rel_start (N := N) hz hF ha hp hpl'
    rw [List.append_nil, List.append_nil]
    exact h, by
      have hpl : ps.length ≤ N.length := by have := congrArg List.length Sc.pre; rw [List.length_take] at this; omega
      simp [L2.start, startD, ha.len], hlaw as pn PQ hl hd, ?_⟩
  exact ⟨fun σ ρ H' F' h _ _ R => rel_end q h (R.pushVal (d := .none) (v := .non) (DR.non_.mpr rfl)), fun _ _ _ _ h => h.elim, fun _ _ _ _ h => h.elim, fun zs ws d pn v H' F' h R => rel_end q h R⟩
end Dk
set_option Elab.async false
set_option linter.all false
set_option maxRecDepth 100000
set_option maxHeartbeats 2000000
/-! Dk, part 9: xs[::-1], {}, tuple * int. -/
namespace HT
open PySem PySem.Calls PySem.Spec PyProof.Rows
section
variable {prog : Program} {w : World} {A : Around} {E : Value → Shared → Prop} {s : Shared}
theorem sliceApplied_rev {sl : Addr} {vl vu vs : Value} {n : Nat} {Q : Int × Int × Nat → Shared → Prop} (hs : s.heap.IsSliceOf sl vl vu vs) (pl : IsPart vl none) (pu : IsPart vu none) (ps : IsPart vs (some (-1)))
    (h : Q (((n : Int) - 1), -1, n) s) : wpAny (model prog w) A (Builtin.Slice.sliceApplied (.ref sl) (pure (n : Int))) Q E s := by
  obtain ⟨os, hos, hcs, hds⟩ := id hs
  unfold Builtin.Slice.sliceApplied Builtin.Slice.sliceFields
  refine wpAny_bind (wpAny_bind (wpAny_field hos hds (x := vl) rfl (wpAny_bind (wpAny_field hos hds (x := vu) rfl (wpAny_bind (wpAny_field hos hds (x := vs) rfl (wpAny_pure ?_)))))))
  refine wpAny_bind (slicePart_ ps ?_)
  show wpAny _ _ (if ((-1 : Int) == 0) = true then _ else _) _ _ s
  rw [if_neg (by decide)]
  refine wpAny_bind (slicePart_ pl (wpAny_bind (slicePart_ pu (wpAny_bind (wpAny_pure ?_)))))
  show wpAny _ _ (match Builtin.Slice.sliceAdjust none none (-1) (n : Int) with | (lo, hi) => pure (lo, (-1 : Int), Builtin.Slice.slicePlaces lo hi (-1))) _ _ s
  have e1 : Builtin.Slice.sliceAdjust none none (-1) (n : Int) = ((n : Int) - 1, -1) := by
    simp [Builtin.Slice.sliceAdjust]
  rw [e1]
  show wpAny _ _ (pure ((n : Int) - 1, (-1 : Int), Builtin.Slice.slicePlaces ((n : Int) - 1) (-1) (-1))) _ _ s
  have e2 : Builtin.Slice.slicePlaces ((n : Int) - 1) (-1) (-1) = n := by
    simp [Builtin.Slice.slicePlaces]
    omega
  rw [e2]
  exact wpAny_pure h
theorem pick_all : ∀ (xs : List Value), ((List.range xs.length).filterMap fun m => xs[m]?) = xs
  | [] => rfl
  | x :: xs => by
    rw [List.length_cons, List.range_succ_eq_map, List.filterMap_cons, List.filterMap_map]
    simp only [List.getElem?_cons_zero, Function.comp_def, List.getElem?_cons_succ]
    rw [pick_all xs]
theorem fm_congr {α β : Type} {f g : α → Option β} : ∀ {l : List α}, (∀ x ∈ l, f x = g x) → l.filterMap f = l.filterMap g
  | [], _ => rfl
  | x :: l, h => by
    rw [List.filterMap_cons, List.filterMap_cons, h x (by simp), fm_congr (l := l) fun y hy => h y (by simp [hy])]
theorem pick_rev (xs : Array Value) : ((List.range xs.size).filterMap fun (m : Nat) => xs[(((xs.size : Nat) : Int) - 1 + (m : Int) * (-1)).toNat]?) = xs.toList.reverse := by
  have h := pick_all xs.toList.reverse
  rw [List.length_reverse, Array.length_toList] at h
  refine Eq.trans (fm_congr fun m hm => ?_) h
  have hm := List.mem_range.mp hm
  rw [List.getElem?_reverse (by simpa using hm)]
  rw [Array.length_toList, Array.getElem?_toList]
  have e : (((xs.size : Nat) : Int) - 1 + (m : Int) * (-1)).toNat = xs.size - 1 - m := by omega
  rw [e]
theorem getItem_tuple_rev {t sl : Addr} {items : Array Value} {vl vu vs : Value} {Q : Value → Shared → Prop} (ht : IsTup s.heap t items) (hs : s.heap.IsSliceOf sl vl vu vs) (pl : IsPart vl none) (pu : IsPart vu none) (ps : IsPart vs (some (-1)))
    (h : Q (.ref s.heap.objs.size) { s with heap := s.heap.push { cls := .type "tuple", data := .seq items.toList.reverse.toArray } })
    (hsz : items.size ≤ sizeLine) : wpAny (model prog w) A (getItem (.ref t) (.ref sl)) Q E s := by
  have htake : sizeOk (.seq items.toList.reverse.toArray) := by
    show items.toList.reverse.toArray.size ≤ sizeLine
    rw [List.size_toArray, List.length_reverse, Array.length_toList]
    exact hsz
  obtain ⟨os, hos, hcs, hds⟩ := id hs
  have hTs : s.TypeIs (.ref sl) "slice" := ⟨os, hos, hcs⟩
  unfold getItem
  try with_reducible refine wpAny_holding ?_
  first | refine wpAny_bind (wpAny_pure ?_) | skip
  refine wpAny_bind (wpAny_sequenceKey ht.typeIs (by decide) ?_)
  refine wpAny_bind (wpAny_callSpecial?_slot (name := Str.ofString "__getitem__") ht.typeIs PyProof.Rows.slot_tuple_getitem
    (wpAny_call_entry PyProof.Rows.slot_tuple_getitem ht.typeIs entry_tuple_getitem ?_ (args_tuple_getitem _ _)))
  show wpAny _ _ (Builtin.Tuple.tupleItemsOf (.ref t) >>= _) _ _ s
  refine wpAny_bind (tupleItemsOf_ ht ?_)
  refine wpAny_bind (wpAny_typeOf hTs ?_)
  rw [if_pos (by decide)]
  refine wpAny_bind (sliceApplied_rev hs pl pu ps ?_)
  have hno : ¬ ((((items.size : Nat) : Int) - 1 == 0 && (-1 : Int) == 1 && items.size == items.size) = true) := by
    intro q
    rw [Bool.and_eq_true, Bool.and_eq_true] at q
    exact absurd q.1.2 (by decide)
  show wpAny _ _ (if (((items.size : Nat) : Int) - 1 == 0 && (-1 : Int) == 1 && items.size == items.size) = true then _ else _) _ _ s
  rw [if_neg hno, pick_rev]
  first
    | exact wpAny_bind (m := Builtin.Tuple.tupleExact _) (wpAny_newObj_type (wpAny_pure ⟨_, rfl, wpAny_pure h⟩) htake)
    | exact wpAny_bind (m := Builtin.Tuple.tupleExact _) (wpAny_newObj_type (wpAny_bind (wpAny_pure (wpAny_pure ⟨_, rfl, wpAny_pure h⟩))) htake)
    | exact wpAny_bind (wpAny_bind (m := Builtin.Tuple.tupleExact _) (wpAny_newObj_type (wpAny_pure (wpAny_pure ⟨_, rfl, wpAny_pure h⟩)) htake))
    | exact wpAny_bind (wpAny_bind (m := Builtin.Tuple.tupleExact _) (wpAny_newObj_type (wpAny_pure ⟨_, rfl, wpAny_pure h⟩) htake))
end
end HT
namespace Dk
open PySem PySem.Spec PyProof.Rows L2
variable {S : Type} [StK S]
/-! ### xs[::-1] -/
def tRevS (K : Fg) (te : TE) : TE := fun σ H Q => te σ H fun x H1 => ∃ a c xs, x = .ref a ∧ SqC K H1 c a xs ∧ ∀ p, H1 p = none → Q (.ref p) (upd H1 p (if c = true then .tup xs.reverse else .lst xs.reverse))
section
variable {X : Cx} {e : Expr} {t : (OW S)} {k : Nat} {p1 p2 p3 pos : Pos}
theorem pe_revS {te : TE} (he : PE X e te) : PE X (.Subscript e (.Slice none none (some (.UnaryOp .USub (.Constant (.int 1) k p1) p2)) p3) pos) (tRevS X.K te) := by
  refine ⟨fun pins s σ H Q I h => ?_⟩
  refine Subscript_ (thn (he.run pins s σ H _ I h) fun v s1 ⟨x, H1, I1, r1, q1⟩ => ?_)
  obtain ⟨a, c, xs, ex, hx, q⟩ := q1
  subst ex
  cases r1
  have hst : PO X (some (.UnaryOp .USub (.Constant (.int 1) k p1) p2)) (tPart (tUn (rU fun i => .int (-i)) (tC (.int 1)))) := po_some (pe_un un_neg pe_int)
  refine wpAny_Slice (thn (po_none.run pins s1 σ H1 (fun o H2 => o = none ∧ H2 = H1) I1 ⟨rfl, rfl⟩) fun vl s2 ⟨l, H2, I2, pl, el, e2⟩ => ?_)
  subst el e2
  refine thn (po_none.run pins s2 σ H2 (fun o H3 => o = none ∧ H3 = H2) I2 ⟨rfl, rfl⟩) fun vu s3 ⟨u, H3, I3, pu, eu, e3⟩ => ?_
  subst eu e3
  refine thn (hst.run pins s3 σ H3 (fun o H4 => o = some (-1) ∧ H4 = H3) I3 ⟨1, rfl, -1, rfl, rfl, rfl⟩) fun vs s4 ⟨o, H4, I4, ps, eo, e4⟩ => ?_
  subst eo e4
  have I5 : L2.Inv X pins σ H4 { s4 with heap := s4.heap.push { cls := .type "slice", data := .fields #[vl, vu, vs] } } := I4.kept (t' := s4.toks) fun b ob q => Heap.get?_push_of_some _ q
  show wpAny (model X.prog X.w) X.A (subscriptTail e (.Slice none none (some (.UnaryOp .USub (.Constant (.int 1) k p1) p2)) p3) (.ref a) (.ref s4.heap.objs.size)) (EP X pins σ Q) X.xe { s4 with heap := s4.heap.push { cls := .type "slice", data := .fields #[vl, vu, vs] } }
  cases c with
  | false =>
    obtain ⟨its, r, ht, hz⟩ := I5.list hx
    have hlen := r.length
    refine tail_any (ops := [.ref a, .ref s4.heap.objs.size]) ht.isList.typeIs (PySem.slot_list_getitem.lookup) ?_ (by with_unfolding_all rfl)
    refine wpAny_getItem_list_slice ht.isList (Heap.IsSliceOf.new _ vl vu vs) pl pu ps (by decide) ?_ (by rw [List.size_toArray]; omega)
    rw [PySem.W.krv_pick]
    refine ⟨.ref _, _, I5.laid (t' := s4.toks) (o := .lst xs.reverse) (fun b ob q => Heap.get?_push_of_some _ q) (Nat.le_refl _) ?_, rfl, q _ (I5.hok.fresh (Nat.le_refl _))⟩
    exact ⟨by rw [List.length_reverse]; exact hz, _, 0, r.reverse, Heap.get?_push_size _ rfl⟩
  | true =>
    obtain ⟨its, r, ht, hz⟩ := I5.tuple hx
    have hlen := r.length
    refine tail_any (ops := [.ref a, .ref s4.heap.objs.size]) ht.typeIs (PyProof.Rows.slot_tuple_getitem.lookup) ?_ (by with_unfolding_all rfl)
    refine HT.getItem_tuple_rev ht (Heap.IsSliceOf.new _ vl vu vs) pl pu ps ?_ (by rw [List.size_toArray]; omega)
    refine ⟨.ref _, _, I5.laid (t' := s4.toks) (o := .tup xs.reverse) (fun b ob q => Heap.get?_push_of_some _ q) (Nat.le_refl _) ?_, rfl, q _ (I5.hok.fresh (Nat.le_refl _))⟩
    exact ⟨by rw [List.length_reverse]; exact hz, _, r.reverse, IsTup.new _ _⟩
def revD : D → Option Rs
  | .list ds => some (.own ds.reverse)
  | .tuple ds => some (.val (.tuple ds.reverse))
  | _ => none
@[simp] theorem revD_list {ds : List D} : revD (.list ds) = some (.own ds.reverse) := rfl
@[simp] theorem revD_tuple {ds : List D} : revD (.tuple ds) = some (.val (.tuple ds.reverse)) := rfl
theorem ce_rev (he : CO (S := S) X e t) : CE (S := S) X (.Subscript e (.Slice none none (some (.UnaryOp .USub (.Constant (.int 1) k p1) p2)) p3) pos) (dUn revD t) := pe_mono (pe_revS he) fun σ H Q h => by
  obtain ⟨B, pa, τ, F, ρ, θ, P, R, hl, h, q⟩ := un_step h
  refine ⟨B, pa, τ, F, ρ, θ, P, R, hl, h, fun k1 ρ1 v1 H1 F1 h1 hl1 R1 s1 => ?_⟩
  obtain ⟨F2, d, r, ⟨hz0, hF⟩, hd, hr, q'⟩ := q k1 ρ1 v1 H1 F1 h1 hl1 R1 s1
  unfold revD at hr
  split at hr
  · cases hr
    obtain ⟨a, vs, rfl, ha, ra⟩ := hd.list hF
    exact ⟨a, false, vs, rfl, .inl (.inl ha), fun p hp => q' _ p ra.reverse (by rw [List.length_reverse]; exact hz0.l ha) hp⟩
  · cases hr
    obtain ⟨a, vs, rfl, ha, ra⟩ := hd.tuple hF
    exact ⟨a, true, vs, rfl, ha, fun p hp => q'.2.1 _ _ p rfl ra.reverse (by rw [List.length_reverse]; exact hz0.t ha) hp⟩
  · cases hr
theorem ce_dict0 : CE (S := S) X (.Dict [] [] pos) (dC (.dict [])) := pe_mono pe_dnewK fun σ H Q ⟨B, pa, τ, F, ρ, θ, P, R, hl, h, q⟩ => fun p hp => q _ _ (.ref p) _ _ h hl (R.pushDict hp) (fun j e => by cases e)
/-! ### tuple * int -/
theorem tuple_mul1 (l : Addr) (items : Array Value) (n : Nat) (dd : Option Addr) (sl : Array (Option Value)) (u : Tok) :
    Meets (Builtin.«tuple.__mul__» ⟨[.ref l, .int 1 u], []⟩) (fun _ R s => s.heap.get? l = some { cls := .type "tuple", dict := dd, data := .seq items n, slots := sl } ∧ R (.ok (.ret (Value.ref l))) s) :=
  .of_wp fun prog w A R s h => by
    obtain ⟨hp, g, d, tk, os⟩ := s
    obtain ⟨hl, h⟩ := h
    have f1 := AutoSeq1.idx_int
    have c0 : ((1 : Int) < -(2 ^ 63) || (1 : Int) ≥ 2 ^ 63) = false := by decide
    wp_walk using wpAny_loadPart' hl
    repeat (first
      | (refine wpAny_ite_true (by simp) ?_; wp_walk using wpAny_loadPart' hl)
      | (refine wpAny_ite_false (by decide) ?_; wp_walk using wpAny_loadPart' hl))
    exact ⟨_, rfl, h⟩
theorem op_rep1 : OpR X (binaryOp .Mult) (fun x y H Q => ∃ l xs, x = .ref l ∧ y = .int 1 ∧ SqT X.K H l xs ∧ Q (.ref l) H) := by
  intro pins s σ H x y v u Q I rx ry h
  obtain ⟨l, xs, rfl, rfl, hT, q⟩ := h
  cases rx
  obtain ⟨t, rfl⟩ := ry
  obtain ⟨its, r, ⟨⟨cls, dd, data, sl⟩, ho, hc, n, hd⟩, hs⟩ := I.tuple hT
  simp only at hc hd
  subst hc hd
  exact wpAny_binaryOp_repeat_ref (T := "tuple") (U := "int") (by decide) ⟨_, ho, rfl⟩ (fun s' => typeIs_int s' 1 t) noFill_tuple_mul F.fills_int_mul F.slot_int_rmul repeat_tuple F.slot_int_index.lookup
    (call_meets F.slot_int_rmul (typeIs_int s 1 t) F.entry_int_rmul (F.args_int_rmul_2 _ _) (int_rmul_tuple 1 t l its.toArray n dd sl)
      ⟨ho, rfl, ⟨_, ho, rfl⟩, call_meets F.slot_tuple_mul ⟨_, ho, rfl⟩ F.entry_tuple_mul (F.args_tuple_mul_2 _ _) (tuple_mul1 l its.toArray n dd sl t) ⟨ho, .ref l, H, I, rfl, q⟩⟩)
def mulT : D → D → Option Rs
  | .tuple xs, .int k => if xs ≠ [] ∧ 1 ≤ k ∧ k ≤ 1000 ∧ xs.length ≤ 1000 then some (.val (.tuple (List.replicate k.toNat xs).flatten)) else none
  | a, b => mulD a b
theorem od_mulT : OpD X (binaryOp .Mult) mulT := by
  intro pins s σ H x y v u Q I rx ry ⟨F, d, e, r, ⟨hz0, hF⟩, hd, he, hg, q⟩
  unfold mulT at hg
  split at hg
  · split at hg
    · rename_i xs k hc
      cases hg
      by_cases hk : k = 1
      · subst hk
        have hdr : DR X.K F (.tuple xs) x := by
          rcases hd with hd | ⟨ds, a, vs, e, _⟩
          · exact hd
          · cases e
        obtain ⟨a, vs, rfl, ha, ra⟩ := (RdD.tuple hd hF : _)
        refine op_rep1 pins s σ H _ y v u Q I rx ry ⟨a, vs, rfl, he.int, ha, q.1 _ ?_⟩
        have e1 : (List.replicate (Int.toNat 1) xs).flatten = xs := by simp
        rw [e1]
        exact hdr
      · obtain ⟨a, vs, rfl, ha, ra⟩ := hd.tuple hF
        have hl := ra.len
        refine op_repT pins s σ H _ y v u Q I rx ry ⟨a, _, vs, rfl, he.int, ha, fun e => hc.1 (by subst e; exact List.length_eq_zero_iff.mp (by simpa using hl.symm)), by omega, hc.2.2.1, by rw [hl]; exact hc.2.2.2, fun p hp => q.2.1 _ _ p rfl (ra.rep _) ?_ hp⟩
        rw [len_rep, hl, sizeLine_eq]
        exact Nat.le_trans (show _ ≤ 1000 * 1000 from Nat.mul_le_mul (by omega) hc.2.2.2) (by omega)
    · cases hg
  · exact od_mul pins s σ H x y v u Q I rx ry ⟨F, d, e, r, ⟨hz0, hF⟩, hd, he, hg, q⟩
end
end Dk
set_option Elab.async false
set_option linter.all false
set_option maxRecDepth 100000
set_option maxHeartbeats 2000000
/-! Dp: the pen read and written; the script cut. -/
namespace Dk
open PySem PySem.Spec PyProof.Rows L2
variable {S : Type}
def isPen (ρ : List Sl) (i : Nat) : Bool := match ρ[i]? with
  | some .pen => true
  | _ => false
theorem isPen_some {ρ : List Sl} {i : Nat} (h : isPen ρ i = true) : ρ[i]? = some .pen := by
  unfold isPen at h
  split at h
  · assumption
  · cases h
def scr? (ρ : List Sl) (i : Nat) : Option (List Int) := match ρ[i]? with
  | some (.scr ns) => some ns
  | _ => none
theorem scr?_some {ρ : List Sl} {i : Nat} {ns : List Int} (h : scr? ρ i = some ns) : ρ[i]? = some (.scr ns) := by
  unfold scr? at h
  split at h
  · cases h; assumption
  · cases h
def penD (p : Pen) : Int → Option D
  | 0 => some (.list (p.cells.map .int))
  | 1 => some (.int p.at_)
  | 2 => some (.int p.cur)
  | _ => none
def penSet (p : Pen) (z : Int) : Int → Option Pen
  | 1 => some { p with at_ := z }
  | 2 => some { p with cur := z }
  | _ => none
section
variable {K : Fg} {B : Bs} {pa : Option Addr} {zs : List (Option V)} {H F : Hp} {ws : List Sl}
theorem Rel.penR {S : Type} [PenK S] {pn : S} (R : Rel K B pa zs H F ws pn) : PenR K F H pa (PenK.get pn) := by
  obtain ⟨T, t⟩ := R.st
  exact (PenK.pen t.r).1
theorem Rel.penW {S : Type} [PenK S] {pn : S} {p : Pen} (R : Rel K B pa zs H F ws pn) {a c : Addr} (hp : pa = some a) (hH : H a = some (.lst [.ref c, .int p.at_, .int p.cur])) (hg : PenK.get pn = some p) (x y : Int) : Rel K B pa zs (upd H a (.lst [.ref c, .int x, .int y])) F ws (PenK.set (some { p with at_ := x, cur := y }) pn) := by
  obtain ⟨T, t⟩ := R.st
  obtain ⟨pr, pt⟩ := PenK.pen t.r
  rw [hg] at pr
  obtain ⟨a', c', q1, q2, q3, q4⟩ := pr
  rw [hp] at q1
  cases q1
  rw [hH] at q2
  cases q2
  have ht := pt a hp
  have hr : StK.R K pa (upd H a (.lst [.ref c, .int x, .int y])) F (PenK.set (some { p with at_ := x, cur := y }) pn) T :=
    PenK.up t.r (fun b _ n => upd_ne fun z => n (by rw [z]; exact hp)) (Le.refl _) t.fn ⟨a, c, hp, upd_same, q3, q4⟩
  refine R.called t (fun b u e n => ?_) (Le.refl _) (fun b u e => ?_) (fun b u e => .inl e) hr (fun b hb => .inl hb) (fun b hb => ?_) t.fn (fun b hb => ?_) (R.sz.upL (by show 3 ≤ sizeLine; decide))
  · rw [upd_ne fun z => n (by rw [z]; exact ht)]; exact e
  · rw [upd_ne fun z => by rw [z, q3] at e; cases e]; exact R.fh _ _ e
  · by_cases e : b = a
    · rw [e, upd_same]; exact nofun
    · rw [upd_ne e]; exact t.hn b hb
  · by_cases e : b = a
    · rw [e, upd_same]; exact nofun
    · rw [upd_ne e]; exact hb
end
section
variable {S : Type} [PenK S] {X : Cx} {e : Expr} {k : Nat} {pos p1 p2 p3 : Pos} {te : (DW S)}
theorem pen_slot {S : Type} [StK S] {K : Fg} {B : Bs} {pa : Option Addr} {σ : L2.St} {τ : List (Option V)} {H F : Hp} {ρ θ : List Sl} {pn : S} {i : Nat} (R : Rel K B pa (σ ++ τ) H F (ρ ++ θ) pn) (hl : ρ.length = σ.length) (h : isPen ρ i = true) : ∃ a, pa = some a ∧ σ[i]? = some (some (.ref a)) := by
  have h := isPen_some h
  have hi := (List.getElem?_eq_some_iff.mp h).1
  obtain ⟨o, h1, a, h2, h3⟩ := R.sl i .pen (by rw [List.getElem?_append_left hi]; exact h)
  subst h3
  exact ⟨a, h2, left_get (by omega) h1⟩
def dPen (i : Nat) (j : Int) : (DW S) := fun ρ P => isPen ρ.sl i = true ∧ gets (PenK.get ρ.pn) fun p => gets (penD p j) fun d => P (.val d) ρ
theorem ce_pen (i : Nat) {x : Str} {j : Int} (hN : X.N[i]? = some x := by rfl) (hv : Vis X.env.scope x := by first | exact Or.inl rfl | exact Or.inr (Or.inl rfl) | exact Or.inr (Or.inr rfl)) (hd : (x == ("__debug__" : Str)) = false := by decide) (hcd : (x == ("__classdict__" : Str)) = false := by decide) :
    CE (S := S) X (.Subscript (.Name x p1) (.Constant (.int j) k p2) pos) (dPen i j) := pe_mono (pe_ix ix_list (pe_var hN hv hd hcd) pe_int (fun _ _ => rfl)) fun σ H Q h => by
  obtain ⟨B, pa, τ, F, ρ, θ, P, R, hl, ⟨h0, h⟩, q⟩ := toE h
  obtain ⟨p, hp, h⟩ := gets_elim h
  obtain ⟨d, hj, h⟩ := gets_elim h
  obtain ⟨a, ha, hs⟩ := pen_slot R hl h0
  have hpn : PenR X.K F H pa (PenK.get ρ.pn) := R.penR
  rw [hp] at hpn
  obtain ⟨a', c, q1, q2, q3, q4⟩ := hpn
  rw [ha] at q1
  cases q1
  have fin : ∀ w, DR X.K F d w → Q w H := fun w hw => q (.val d) ρ w H F h hl (R.pushVal hw)
  unfold penD at hj
  split at hj
  · cases hj
    exact ⟨.ref a, hs, a, _, _, .ref c, rfl, rfl, .inl (.inl q2), rfl, fin _ (DR.list_.mpr ⟨c, _, rfl, q4, DRs.of_ints _⟩)⟩
  · cases hj
    exact ⟨.ref a, hs, a, _, _, .int p.at_, rfl, rfl, .inl (.inl q2), rfl, fin _ (DR.int_.mpr rfl)⟩
  · cases hj
    exact ⟨.ref a, hs, a, _, _, .int p.cur, rfl, rfl, .inl (.inl q2), rfl, fin _ (DR.int_.mpr rfl)⟩
  · cases hj
def dPenSet (i : Nat) (j : Int) (te : (DW S)) : (DS S) := fun E ρ => te ρ fun r ρ1 => isPen ρ1.sl i = true ∧ gets (PenK.get ρ1.pn) fun p => gets (D.int? r.d) fun z => gets (penSet p z j) fun p' => E.nx { ρ1 with pn := PenK.set (some p') ρ1.pn }
theorem cs_setPen (i : Nat) {x : Str} {j : Int} (he : CE (S := S) X e te) (hN : X.N[i]? = some x := by rfl) (hv : Vis X.env.scope x := by first | exact Or.inl rfl | exact Or.inr (Or.inl rfl) | exact Or.inr (Or.inr rfl)) (hd : (x == ("__debug__" : Str)) = false := by decide) (hcd : (x == ("__classdict__" : Str)) = false := by decide)
    (hA : ∀ v, assign (.Subscript (.Name x p1) (.Constant (.int j) k p3) p2) X.env v = (do
      let ov ← holding [v] (eval (.Name x p1) X.env)
      let iv ← holding [v, ov] (eval (.Constant (.int j) k p3) X.env)
      standAt p2
      holding [v, ov, iv] (setItem ov iv v)
      release [v, ov, iv] []) := by intro _; rfl)
    (hs : swapsWithSole [.Subscript (.Name x p1) (.Constant (.int j) k p3) p2] e pos.line X.env = pure false := by rfl) (hw : swappedStores [.Subscript (.Name x p1) (.Constant (.int j) k p3) p2] e X.env = pure none := by rfl) (hq : (assignEach [.Subscript (.Name x p1) (.Constant (.int j) k p3) p2] X.env).map (·.2) = [assign (.Subscript (.Name x p1) (.Constant (.int j) k p3) p2) X.env] := by rfl) :
    CS (S := S) X (.Assign [.Subscript (.Name x p1) (.Constant (.int j) k p3) p2] e pos) (dPenSet i j te) :=
  ps_mono (ps_asg he (pg_sub (pe_var hN hv hd hcd) pe_int set_list hA) hs hw hq) fun Z σ H ⟨B, pa, τ, F, ρ, θ, E, R, hl, h, q⟩ =>
    ofE ⟨B, pa, τ, F, ρ, θ, _, R, hl, h, fun r ρ1 v H1 F1 h1 l1 R1 => by
      obtain ⟨F2, _, R2⟩ := freezeLast R1
      obtain ⟨h0, h1⟩ := h1
      obtain ⟨p, hp, h1⟩ := gets_elim h1
      obtain ⟨z, hz, h1⟩ := gets_elim h1
      obtain ⟨p', hp', h1⟩ := gets_elim h1
      have ez := D.int?_some hz
      rw [ez] at R2
      obtain ⟨⟨v', e', hv'⟩, _⟩ := Rel.last (s := .val (.int z)) R2
      cases e'
      have ev := DR.int_.mp hv'
      subst ev
      have R3 := R2.pop
      obtain ⟨a, ha, hsl⟩ := pen_slot R3 l1 h0
      have hpn : PenR X.K F2 H1 pa (PenK.get ρ1.pn) := R3.penR
      rw [hp] at hpn
      obtain ⟨a', c, q1, q2, q3, q4⟩ := hpn
      rw [ha] at q1
      cases q1
      unfold penSet at hp'
      split at hp'
      · cases hp'
        exact ⟨.ref a, hsl, a, _, _, 1, rfl, rfl, q2, rfl, q.nx σ { ρ1 with pn := PenK.set (some { p with at_ := z }) ρ1.pn } _ F2 h1 rfl l1 (R3.penW ha q2 hp z p.cur)⟩
      · cases hp'
        exact ⟨.ref a, hsl, a, _, _, 2, rfl, rfl, q2, rfl, q.nx σ { ρ1 with pn := PenK.set (some { p with cur := z }) ρ1.pn } _ F2 h1 rfl l1 (R3.penW ha q2 hp p.at_ z)⟩
      · cases hp'⟩
/-! ### the script, cut -/
def dScr (i : Nat) (lo hi : (PW_ S)) : (DW S) := fun ρ P => (scr? ρ.sl i).isSome = true ∧ lo ρ fun l ρ2 => hi ρ2 fun h ρ3 => gets (scr? ρ3.sl i) fun ns => P (.own (cutD (ns.map .int) l h)) ρ3
theorem ce_scr (i : Nat) {x : Str} {lo hi : Option Expr} {tl th : (PW_ S)} (hl : CP (S := S) X lo tl) (hh : CP (S := S) X hi th) (hN : X.N[i]? = some x := by rfl) (hv : Vis X.env.scope x := by first | exact Or.inl rfl | exact Or.inr (Or.inl rfl) | exact Or.inr (Or.inr rfl)) (hd : (x == ("__debug__" : Str)) = false := by decide) (hcd : (x == ("__classdict__" : Str)) = false := by decide) :
    CE (S := S) X (.Subscript (.Name x p1) (.Slice lo hi none p2) pos) (dScr i tl th) := pe_mono (pe_slice sl_list (pe_var hN hv hd hcd) hl hh) fun σ H Q h => by
  obtain ⟨B, pa, τ, F, ρ, θ, P, R, hl, ⟨h0, h⟩, q⟩ := toE h
  have at_ : ∀ {H F : Hp} {ρ : (En S)} {ns : List Int}, Rel X.K B pa (σ ++ τ) H F (ρ.sl ++ θ) ρ.pn → ρ.sl.length = σ.length → scr? ρ.sl i = some ns → ∃ a, σ[i]? = some (some (.ref a)) ∧ SqL X.K H a (ns.map .int) := fun {H F ρ ns} R hl h => by
    have h := scr?_some h
    have hi := (List.getElem?_eq_some_iff.mp h).1
    obtain ⟨o, h1, a, h2, h3⟩ := R.sl i (.scr ns) (by rw [List.getElem?_append_left hi]; exact h)
    subst h2
    exact ⟨a, left_get (by omega) h1, R.scrH h3⟩
  obtain ⟨ns0, e0⟩ := Option.isSome_iff_exists.mp h0
  obtain ⟨a, s0, _⟩ := at_ R hl e0
  refine ⟨.ref a, s0, B, pa, τ, F, ρ, θ, _, R, hl, h, fun l ρ2 H2 F2 h2 hl2 R2 => ?_⟩
  refine ⟨B, pa, τ, F2, ρ2, θ, _, R2, hl2, h2, fun u ρ3 H3 F3 h3 hl3 R3 => ?_⟩
  obtain ⟨ns, e1, h3⟩ := gets_elim h3
  obtain ⟨a', s1, hs⟩ := at_ R3 hl3 e1
  rw [s0] at s1
  cases s1
  refine ⟨a, _, rfl, hs, fun p hp => ?_⟩
  have hd : DRs X.K F3 (cutD (ns.map .int) l u) (cutV (ns.map .int) l u) := (DRs.of_ints ns).cut l u
  have hz : (cutV (ns.map V.int) l u).length ≤ sizeLine := by
    refine Nat.le_trans (cutV_length _ l u) ?_
    rcases hs with hs | ⟨o, its, n, _, _, _, _, hz, r⟩
    · rcases hs with hs | ⟨o, hs⟩
      · exact R3.sz a _ (.inl hs)
      · exact R3.sz a _ (.inr (.inl ⟨o, hs⟩))
    · have := r.length
      simp at this hz ⊢
      omega
  exact q (.own (cutD (ns.map .int) l u)) ρ3 _ _ F3 h3 hl3 (R3.pushOwn hp hd hz)
end
end Dk
set_option Elab.async false
set_option linter.all false
set_option maxRecDepth 100000
set_option maxHeartbeats 2000000
/-! Dl: the law's def and the end. -/
namespace Dk
open PySem PySem.Spec PyProof.Rows L2
def penL (cells : List Int) : D := .list [.list (cells.map .int), .int 0, .int 0]
def law0 (n : Nat) : List Sl := (List.replicate n .un).set 1 .pen
def spLaw (K : Fg) : Sp := fun vs H Q _ => ∃ (a : Addr) (ns : List Int), vs = [.ref a] ∧ SqL K H a (ns.map V.int) ∧ Szs H ∧ ∀ H', Q (.bl true) H'
/-- behind the pen's making: the pen is the law's own -/
theorem adopt {K : Fg} {H H2 F2 : Hp} {σ : L2.St} {n : Nat} {ns cells : List Int} (hn : 2 ≤ n) {T : Addr → Prop} (R : Rel K ⟨H, fun _ => none, T⟩ none σ H2 F2 ((startD n [.scr ns]).set 1 (.val (penL cells))) (none : Option Pen)) :
    ∃ p F', Rel K ⟨fun _ => none, fun _ => none, fun _ => False⟩ (some p) σ H2 F' (law0 n) (some ⟨cells, 0, 0⟩ : Option Pen) := by
  have hl : (startD n [.scr ns]).length = n := by simp [startD]; omega
  obtain ⟨o, h1, v, rfl, hd⟩ := R.sl 1 (.val (penL cells)) (by rw [List.getElem?_set_self (by omega)])
  obtain ⟨p, vs, rfl, hp, hr⟩ := DR.list_.mp hd
  obtain ⟨v1, r1, rfl, d1, hr⟩ := DRs.cons_.mp hr
  obtain ⟨v2, r2, rfl, d2, hr⟩ := DRs.cons_.mp hr
  obtain ⟨v3, r3, rfl, d3, hr⟩ := DRs.cons_.mp hr
  cases DRs.nil_.mp hr
  cases DR.int_.mp d2
  cases DR.int_.mp d3
  obtain ⟨c, us, rfl, hc, hu⟩ := DR.list_.mp d1
  have eu := DRs.ints hu
  subst eu
  have hpc : p ≠ c := fun e => by
    rw [e, hc] at hp
    cases cells with
    | nil => cases hp
    | cons x r => cases hp
  refine ⟨p, fun b => if b = c then some (.lst (cells.map V.int)) else none, ?_⟩
  have noown : ∀ (i : Nat) (xs : List D), (law0 n)[i]? ≠ some (.own xs) := fun i xs e1 => by
    unfold law0 at e1
    by_cases hi : i = 1
    · subst hi
      rw [List.getElem?_set_self (by rw [List.length_replicate]; omega)] at e1
      cases e1
    · rw [List.getElem?_set_ne (Ne.symm hi), List.getElem?_replicate] at e1
      split at e1 <;> cases e1
  refine ⟨by rw [R.len]; simp [law0, hl], fun b o e => ?_, fun b o e => (nomatch e), fun b o e => (nomatch e), fun b o e => .inr rfl, fun i s e => ?_, fun i j xs ys a e1 => absurd e1 (noown i xs), ⟨fun b => some p = some b, ⟨⟨p, c, rfl, R.fh _ _ hp, if_neg hpc, if_pos rfl⟩, rfl⟩, fun b hb => ?_, fun b hb => ?_, fun b hb => .inl rfl, fun i xs a e1 _ => absurd e1 (noown i xs)⟩, fun a e => e.elim, R.sz⟩
  · by_cases hb : b = c
    · rw [if_pos hb] at e
      cases e
      rw [hb]
      exact R.fh _ _ hc
    · rw [if_neg hb] at e
      cases e
  · unfold law0 at e
    by_cases hi : i = 1
    · subst hi
      rw [List.getElem?_set_self (by rw [List.length_replicate]; omega)] at e
      cases e
      exact ⟨_, h1, p, rfl, rfl⟩
    · rw [List.getElem?_set_ne (Ne.symm hi), List.getElem?_replicate] at e
      split at e
      · rename_i hlt
        cases e
        have : i < σ.length := by rw [R.len]; simp [hl]; exact hlt
        exact ⟨σ[i], List.getElem?_eq_getElem this, trivial⟩
      · cases e
  · cases hb
    rw [R.fh _ _ hp]
    exact nofun
  · cases hb
    exact if_neg hpc
/-- THE RULE for the law's def: its first row makes the pen -/
theorem law_mk {P : Program} {w : World} {K : Fg} {mg : Str → Option Value} {base : Heap} {x : Str} {st s0 : Stmt} {rest : List Stmt} {f : Addr} {fd : FuncData} {N : List Str} {p0 : Str} {k : Nat} {sOpen : DSp} {u : DS} (Fu : Dfn K mg x st f fd) (S : FnScope N [p0] (defScope st))
    (hb : defBody st = s0 :: rest) (hn : 2 ≤ N.length)
    (h0 : ∀ (cdv : Value) (A : Around) (outer : List Env) (s : Shared) (H : Hp) (E : XK), XO (cx0 P w K mg base N x (defScope st) f cdv A outer s H E) k → CS (cx0 P w K mg base N x (defScope st) f cdv A outer s H E) s0 (dSet 1 (dCall 1 sOpen (aCons (oSlot 0) aNil))))
    (hr : ∀ (cdv : Value) (A : Around) (outer : List Env) (s : Shared) (H : Hp) (E : XK), XO (cx0 P w K mg base N x (defScope st) f cdv A outer s H E) k → CSs (cx0 P w K mg base N x (defScope st) f cdv A outer s H E) rest u)
    (hopen : ∀ (ns : List Int) (Q : D → Option Pen → Prop), (∀ cells, Q (penL cells) none) → sOpen [.scr ns] none Q)
    (hlaw : ∀ cells : List Int, u { nx := fun _ => False, rt := fun d _ => d = .bool true } ⟨law0 N.length, some ⟨cells, 0, 0⟩⟩) : FnG P w K mg base CX0 (k + 1) f fd [p0] (spLaw K) := by
  obtain ⟨oc, od, dV, kV, doc, pm, an, cdv, ct, osl, rfl, lk, hcd, hD, _⟩ := Fu.F.ex
  refine fng_of lk hcd S (fun vs H Q E ⟨a, ns, e, _⟩ => by rw [e]; rfl) fun A outer s H vs Q E hroom hgd hsp => ?_
  obtain ⟨a, ns, rfl, hS, hz, q⟩ := hsp
  have X0 : XO (cx0 P w K mg base N x (defScope st) f cdv A outer s H E) k := ⟨rfl, hroom, hgd, S.nd, PassesOwn.never⟩
  have hw := pss_cons (h0 cdv A outer s H E X0) (hr cdv A outer s H E X0)
  rw [← hb] at hw
  refine ⟨_, hw.nox, ?_⟩
  have hl : (startD N.length [.scr ns]).length = N.length := by simp [startD]; omega
  have hS2 : ScrR K H (fun b => (none : Option Addr) = some b) a ns := by
    rcases hS with hS | hS
    · exact .inl ⟨hS, nofun⟩
    · exact .inr (.inr hS)
  have R0 : Rel K ⟨H, fun _ => none, fun b => (none : Option Addr) = some b⟩ none (L2.start N [.ref a]) H (fun _ => none) (startD N.length [.scr ns]) (none : Option Pen) :=
    rel_start hz (fun b o e => (nomatch e)) ⟨.ref a, [], rfl, ⟨a, rfl, hS2⟩, rfl⟩ ⟨trivial, rfl⟩ (fun a e => (nomatch e))
  refine ⟨⟨H, fun _ => none, fun b => (none : Option Addr) = some b⟩, none, [], fun _ => none, ⟨startD N.length [.scr ns], none⟩, [], { nx := fun ρ1 => ∃ cells, ρ1 = ⟨(startD N.length [.scr ns]).set 1 (.val (penL cells)), none⟩, rt := fun _ _ => False }, ?_, by simp [hl, L2.start]; omega, ?_, ?_⟩
  · rw [List.append_nil, List.append_nil]
    exact R0
  · have hget : (startD N.length [.scr ns])[0]? = some (.scr ns) := by simp [startD, Arg.sl]
    show hasS (startD N.length [.scr ns]) 0 = true ∧ _
    refine ⟨by unfold hasS; rw [hget], ?_⟩
    show gets (toArgs (⟨startD N.length [.scr ns], none⟩ : En) [.slot 0]) fun as => as.length = 1 ∧ sOpen as none fun d pn' => ∃ cells, (⟨(startD N.length [.scr ns]).set 1 (.val d), pn'⟩ : En) = ⟨(startD N.length [.scr ns]).set 1 (.val (penL cells)), none⟩
    have e : toArgs (⟨startD N.length [.scr ns], none⟩ : En) [.slot 0] = some [.scr ns] := by
      show (((startD N.length [.scr ns])[0]?).bind slArg).bind (fun a => (some []).bind fun as => some (a :: as)) = _
      rw [hget]
      rfl
    rw [e]
    exact ⟨rfl, hopen ns _ fun cells => ⟨cells, rfl⟩⟩
  · refine ⟨fun σ ρ H2 F2 h l1 l2 R => ?_, fun _ _ _ _ h => h.elim, fun _ _ _ _ h => h.elim, fun _ _ _ _ _ _ _ h => h.elim⟩
    obtain ⟨cells, rfl⟩ := h
    rw [List.append_nil, List.append_nil] at R
    obtain ⟨p, F', R'⟩ := adopt hn R
    refine ⟨⟨fun _ => none, fun _ => none, fun _ => False⟩, some p, [], F', ⟨law0 N.length, some ⟨cells, 0, 0⟩⟩, [], _, by rw [List.append_nil, List.append_nil]; exact R', by rw [R'.len], hlaw cells, ?_⟩
    refine ⟨fun _ _ _ _ h => h.elim, fun _ _ _ _ h => h.elim, fun _ _ _ _ h => h.elim, fun zs ws d pn v H3 F3 h R3 => ?_⟩
    have h : d = .bool true := h
    subst h
    obtain ⟨⟨v', e', hd⟩, _⟩ := Rel.last (s := .val (.bool true)) R3
    cases e'
    rw [DR.bl_.mp hd]
    exact q H3
end Dk
set_option Elab.async false
set_option linter.all false
set_option maxRecDepth 100000
set_option maxHeartbeats 2000000
/-! Dl2: the end: from the law's promise to the row. -/
namespace Dk
open PySem PySem.Spec PyProof.Rows L2
section
variable {P : Program} {w : World} {K : Fg} {mg mb : Str → Option Value} {k : Nat} {fa a : Addr} {fd : FuncData} {x : Str} {s : Shared} {vs : List Value} {ns : List Int}
/-- the heap in which the script at most is tracked -/
def scriptH (K : Fg) (a : Addr) (vs : List Value) (ns : List Int) : Hp := fun b => if b = a ∧ K.lookup a = none then some (.frz { cls := .type "list", data := .seq vs.toArray } (.lst (ns.map V.int))) else none
theorem scriptH_some {b : Addr} {o : HO} (h : scriptH K a vs ns b = some o) : b = a ∧ K.lookup a = none ∧ o = .frz { cls := .type "list", data := .seq vs.toArray } (.lst (ns.map V.int)) := by
  unfold scriptH at h
  split at h
  · rename_i c
    cases h
    exact ⟨c.1, c.2, rfl⟩
  · cases h
theorem law_end (KX : K.In s.heap) (hns : s.heap.Ns mainGlobals mg) (hb : s.heap.Ns builtinsNs mb) (hbb : ∀ x : Str, x ≠ "__name__" → mb x = bootBuiltins x) (hlim : s.heap.NoLimit) (hg : s.gens = #[])
    (ha : s.heap.get? a = some { cls := .type "list", data := .seq vs.toArray }) (hi : IntsAre vs ns) (hl : ns.length ≤ sizeLine) (hr : Room k callerA)
    (F : ∀ base : Heap, K.In base → base.Ns mainGlobals mg → FnG P w K mg base CX0 k fa fd [x] (spLaw K)) (hbind : ∀ (s : Shared) (u : Value), BindsTo s fd ⟨[u], []⟩ [(x, u)]) :
    codeAny (model P w) callerA (.call (.ref fa) ⟨[.ref a], []⟩) (fun r s' => r = .ok (.ret (.bool true)) ∧ OldK s.heap s'.heap ∧ s'.os = s.os ∧ AllBare s'.gens) s := by
  have hok : HOk P w (scriptH K a vs ns) s.heap := fun b o h => by
    obtain ⟨rfl, _, rfl⟩ := scriptH_some h
    exact ⟨ha, by rw [List.length_map]; exact hl, vs, _, vals_ints hi, ha⟩
  have hS : SqL K (scriptH K a vs ns) a (ns.map V.int) := by
    cases q : K.lookup a with
    | none => exact .inl (.inr ⟨{ cls := .type "list", data := .seq vs.toArray }, if_pos ⟨rfl, q⟩⟩)
    | some o =>
      have e := KX a o q
      rw [ha] at e
      cases e
      exact .inr ⟨_, vs.toArray, _, q, rfl, rfl, rfl, by rw [List.size_toArray, hi.length]; exact hl, by simpa using vals_ints hi⟩
  have seq : ∀ {b : Addr} {o : Obj}, s.heap.get? b = some o → scriptH K a vs ns b ≠ none → ∃ us n, o.data = .seq us n := fun {b o} e h => by
    obtain ⟨u, hu⟩ := Option.ne_none_iff_exists'.mp h
    obtain ⟨rfl, _, _⟩ := scriptH_some hu
    rw [ha] at e
    cases e
    exact ⟨_, _, rfl⟩
  have keep : ∀ {b : Addr} {o : Obj}, s.heap.get? b = some o → scriptH K a vs ns b = none → (hidT s.heap (scriptH K a vs ns)).get? b = some o := fun e n => hidT_get e n
  have nsK : ∀ {b : Addr} {m : Str → Option Value}, s.heap.Ns b m → (hidT s.heap (scriptH K a vs ns)).Ns b m := fun {b m} ⟨o, es, ep, e, d, r⟩ => ⟨o, es, ep, keep e (by
    cases q : scriptH K a vs ns b with
    | none => rfl
    | some u =>
      obtain ⟨us, n, h⟩ := seq e (by rw [q]; simp)
      rw [d] at h
      cases h), d, r⟩
  have KB : K.In (hidT s.heap (scriptH K a vs ns)) := fun b o e => keep (KX b o e) (by
    cases q : scriptH K a vs ns b with
    | none => rfl
    | some u =>
      obtain ⟨rfl, h, _⟩ := scriptH_some q
      rw [h] at e
      cases e)
  have M : Mod K mg (hidT s.heap (scriptH K a vs ns)) := ⟨KB, nsK hns, ⟨mb, nsK hb, hbb⟩, let ⟨mc, h1, h2⟩ := hlim; ⟨mc, nsK h1, h2⟩⟩
  have E : Env0 P w K mg (hidT s.heap (scriptH K a vs ns)) callerA [] s (scriptH K a vs ns) :=
    ⟨rfl, M, fun b o e => of_hidT e, Nat.le_of_eq (hidT_size _ _), trivial, fun b hb => (by cases hb), hok, .of_eq hg⟩
  refine codeAny_mono ((F _ KB (nsK hns)).run callerA [] s (scriptH K a vs ns) ⟨[.ref a], []⟩ [.ref a] [.ref a] (fun v _ => v = .bl true) (fun _ _ _ => False) hr rfl E (hbind s (.ref a)) (.cons rfl .nil) ⟨a, ns, rfl, hS, szs_of hok, fun _ => rfl⟩) fun r s' h => ?_
  cases r with
  | error e => exact (show False from h).elim
  | ok fl =>
    cases fl with
    | next => exact (show False from h).elim
    | brk => exact (show False from h).elim
    | cont => exact (show False from h).elim
    | ret u =>
      obtain ⟨v, H', h1, h2, un, hok', rv, hv⟩ := h
      have hv : v = .bl true := hv
      subst hv
      have eu : u = Value.bool true := rv
      subst eu
      refine ⟨rfl, OldK.of_keep fun b o e => ?_, h1, h2⟩
      cases q : scriptH K a vs ns b with
      | none => exact un.keep b o e q (fun z => by cases z) (by simp)
      | some u =>
        obtain ⟨rfl, _, rfl⟩ := scriptH_some q
        rw [ha] at e
        cases e
        exact (hok' b _ (un.frzs b _ _ q)).1
end
theorem walk_law {l : PySem.W.OpenLaw} {n k : Nat} {q : Program} {loose : List Str} {XP : (Str → Option Value) → Heap → Prop} {YP : World → Heap → Prop} {d : DefRec} {x : Str}
    (hn : l.most = some n) (hn2 : n ≤ sizeLine) (hdf : d.params.defaults = []) (hr : Room k callerA)
    (F : ∀ (w : World) (mg : Str → Option Value) (fa : Addr) (h : Heap), YP w h → h.Ns mainGlobals mg → mg d.name = some (.ref fa) →
      ∃ (K : Fg) (fd : FuncData), K.In h ∧ (∀ (s : Shared) (u : Value), BindsTo s fd ⟨[u], []⟩ [(x, u)]) ∧
        ∀ base : Heap, K.In base → base.Ns mainGlobals mg → FnG l.prog w K mg base CX0 k fa fd [x] (spLaw K)) :
    PySem.W.WalkO q loose XP YP l.row.toRowW d [] (fun f vs => PySem.call f vs) := by
  refine Att.attach_call hn hdf fun w s₀ s₁ mg mb fa o pm cd doc a vs ns G Y ho hd hcd hmg hobj hints hlen hg => ?_
  obtain ⟨K, fd, KX, hb, hF⟩ := F w mg fa _ Y G.T.g hmg
  exact law_end KX G.T.g G.T.b G.T.builtins G.T.nolimit hg hobj hints (Nat.le_trans hlen hn2) hr hF hb
end Dk
set_option Elab.async false
set_option linter.all false
set_option maxRecDepth 100000
set_option maxHeartbeats 2000000
/-! Dt: reading a printed text by simp, the outermost first. -/
namespace Dk
open PySem PySem.Spec PyProof.Rows L2
variable {S : Type} [StK S]
def rdS : List Sl → Nat → Option D
  | [], _ => none
  | s :: _, 0 => s.rd
  | _ :: l, n + 1 => rdS l n
theorem rdS_eq : ∀ (l : List Sl) (i : Nat), (l[i]?).bind Sl.rd = rdS l i
  | [], _ => rfl
  | s :: l, 0 => rfl
  | s :: l, n + 1 => by rw [rdS, ← rdS_eq l n]; rfl
def argS : List Sl → Nat → Option Arg
  | [], _ => none
  | s :: _, 0 => slArg s
  | _ :: l, n + 1 => argS l n
theorem argS_eq : ∀ (l : List Sl) (i : Nat), (l[i]?).bind slArg = argS l i
  | [], _ => rfl
  | s :: l, 0 => rfl
  | s :: l, n + 1 => by rw [argS, ← argS_eq l n]; rfl
/-! values -/
section
variable {ρ : List Sl} {d : D} {r : Rs} {xs ds : List D} {i j : Int} {n : Nat} {x y : Str} {b : Bool}
@[simp] theorem v_hasS : hasS ρ n = match ρ[n]? with
  | some .un => false
  | some _ => true
  | none => false := rfl
@[simp] theorem v_own? : own? ρ n = match ρ[n]? with
  | some (.own xs) => some xs
  | _ => none := rfl
@[simp] theorem v_isPen : isPen ρ n = match ρ[n]? with
  | some .pen => true
  | _ => false := rfl
@[simp] theorem v_scr? : scr? ρ n = match ρ[n]? with
  | some (.scr ns) => some ns
  | _ => none := rfl
@[simp] theorem v_rd_bt {ρ : En S} : Tk.rd ρ (.bt xs) = some (.list xs) := rfl
@[simp] theorem v_srd_val : Sl.rd (.val d) = some d := rfl
@[simp] theorem v_srd_own : Sl.rd (.own xs) = some (.list xs) := rfl
@[simp] theorem v_srd_bor : Sl.rd (.bor xs) = some (.list xs) := rfl
@[simp] theorem v_d_val : Rs.d (.val d) = d := rfl
@[simp] theorem v_d_own : Rs.d (.own xs) = .list xs := rfl
@[simp] theorem v_sl_val : Rs.sl (.val d) = .val d := rfl
@[simp] theorem v_sl_own : Rs.sl (.own xs) = .own xs := rfl
@[simp] theorem v_bl_d : Rs.d (bl b) = .bool b := rfl
@[simp] theorem v_ri_d : Rs.d (ri i) = .int i := rfl
@[simp] theorem v_bl_sl : Rs.sl (bl b) = .val (.bool b) := rfl
@[simp] theorem v_ri_sl : Rs.sl (ri i) = .val (.int i) := rfl
@[simp] theorem v_mkT_d : Rs.d (mkT ds) = .tuple ds := rfl
@[simp] theorem v_mkT_sl : Rs.sl (mkT ds) = .val (.tuple ds) := rfl
@[simp] theorem v_bool : D.bool? (.bool b) = some b := rfl
@[simp] theorem v_Rsb : Rs.b? r = D.bool? r.d := rfl
@[simp] theorem v_lt : ltD (.int i) (.int j) = some (bl (decide (i < j))) := rfl
@[simp] theorem v_le : leD (.int i) (.int j) = some (bl (decide (i ≤ j))) := rfl
@[simp] theorem v_gt : gtD (.int i) (.int j) = some (bl (decide (j < i))) := rfl
@[simp] theorem v_ge : geD (.int i) (.int j) = some (bl (decide (j ≤ i))) := rfl
@[simp] theorem v_addI : addD (.int i) (.int j) = some (ri (i + j)) := rfl
@[simp] theorem v_addL {ys : List D} : addD (.list xs) (.list ys) = if xs.length + ys.length ≤ sizeLine then some (.own (xs ++ ys)) else none := rfl
@[simp] theorem v_addT {ys : List D} : addD (.tuple xs) (.tuple ys) = if xs.length + ys.length ≤ sizeLine then some (.val (.tuple (xs ++ ys))) else none := rfl
@[simp] theorem v_sub : subD (.int i) (.int j) = some (ri (i - j)) := rfl
@[simp] theorem v_mulI : mulT (.int i) (.int j) = if CMulW i j then some (ri (i * j)) else none := rfl
@[simp] theorem v_mulTup : mulT (.tuple xs) (.int i) = if xs ≠ [] ∧ 1 ≤ i ∧ i ≤ 1000 ∧ xs.length ≤ 1000 then some (.val (.tuple (List.replicate i.toNat xs).flatten)) else none := rfl
@[simp] theorem v_fdiv : fdivD (.int i) (.int j) = if CDivW i j then some (ri (i / j)) else none := rfl
@[simp] theorem v_mod : modD (.int i) (.int j) = if 0 < j then some (ri (i % j)) else none := rfl
@[simp] theorem v_pow : powD (.int i) (.int j) = if CPow i j then some (ri (i ^ j.toNat)) else none := rfl
@[simp] theorem v_neg : negD (.int i) = some (ri (-i)) := rfl
@[simp] theorem v_ixL : ixD (.list xs) (.int i) = (atI xs i).map .val := rfl
@[simp] theorem v_ixT : ixD (.tuple xs) (.int i) = (atI xs i).map .val := rfl
@[simp] theorem v_slL {l h : Option Int} : slD (.list xs) l h = some (.own (cutD xs l h)) := rfl
@[simp] theorem v_slT {l h : Option Int} : slD (.tuple xs) l h = some (.val (.tuple (cutD xs l h))) := rfl
@[simp] theorem v_lenL : lenD [.list xs] = some (ri xs.length) := rfl
@[simp] theorem v_lenT : lenD [.tuple xs] = some (ri xs.length) := rfl
@[simp] theorem v_listL : listD [.list xs] = some (.own xs) := rfl
@[simp] theorem v_listT : listD [.tuple xs] = some (.own xs) := rfl
@[simp] theorem v_tupleL : tupleD [.list xs] = some (.val (.tuple xs)) := rfl
@[simp] theorem v_tupleT : tupleD [.tuple xs] = some (.val (.tuple xs)) := rfl
@[simp] theorem v_intI : intD [.int i] = some (ri i) := rfl
@[simp] theorem v_intB : intD [.bool b] = some (ri (if b then 1 else 0)) := rfl
@[simp] theorem v_sumL : sumD [.list ds] = (ints? ds).map fun ns => ri ns.sum := rfl
@[simp] theorem v_allL : allD [.list ds] = (bls? ds).map fun bs => bl (bs.all id) := rfl
@[simp] theorem v_maxL : maxD [.list ds] = (ints? ds).bind fun ns => (maxI ns).map ri := rfl
@[simp] theorem v_max2 : maxD [.int i, .int j] = some (ri (max i j)) := rfl
@[simp] theorem v_eq {e : D} : eqD d e = if eqOk d e = true then some (bl (PyData.eqv d e)) else none := rfl
@[simp] theorem v_ne {e : D} : neD d e = if eqOk d e = true then some (bl (!PyData.eqv d e)) else none := rfl
@[simp] theorem v_is {nb : Bool} : isD nb d .none = some (bl (if nb then !isNone d else isNone d)) := rfl
@[simp] theorem v_vals_nil : vals [] = some [] := rfl
@[simp] theorem v_vals_cons {ks : List Tk} : vals (.tmp (.val d) :: ks) = (vals ks).bind fun ds => some (d :: ds) := rfl
@[simp] theorem v_rds_cons {ρ : En S} {k : Tk} {ks : List Tk} : rds ρ (k :: ks) = (k.rd ρ).bind fun d => (rds ρ ks).bind fun ds => some (d :: ds) := rfl
@[simp] theorem v_toArgs_nil {ρ : En S} : toArgs ρ [] = some [] := rfl
@[simp] theorem v_toArgs_cons {ρ : En S} {k : Tk} {ks : List Tk} : toArgs ρ (k :: ks) = (toArg ρ k).bind fun a => (toArgs ρ ks).bind fun as => some (a :: as) := rfl
@[simp] theorem v_toArg_tmp {ρ : En S} : toArg ρ (.tmp (.val d)) = some (.val d) := rfl
@[simp] theorem v_slArg_val : slArg (.val d) = some (.val d) := rfl
@[simp] theorem v_slArg_own : slArg (.own xs) = some (.bor xs) := rfl
@[simp] theorem v_slArg_bor : slArg (.bor xs) = some (.bor xs) := rfl
@[simp] theorem v_slArg_pen : slArg .pen = some .pen := rfl
@[simp] theorem v_asl_val : Arg.sl (.val d) = .val d := rfl
@[simp] theorem v_asl_bor : Arg.sl (.bor xs) = .bor xs := rfl
@[simp] theorem v_asl_pen : Arg.sl .pen = .pen := rfl
@[simp] theorem v_asl_scr {ns : List Int} : Arg.sl (.scr ns) = .scr ns := rfl
@[simp] theorem v_startD {as : List Arg} : startD n as = as.map Arg.sl ++ List.replicate (n - as.length) .un := rfl
@[simp] theorem v_pen0 {p : Pen} : penD p 0 = some (.list (p.cells.map .int)) := rfl
@[simp] theorem v_pen1 {p : Pen} : penD p 1 = some (.int p.at_) := rfl
@[simp] theorem v_pen2 {p : Pen} : penD p 2 = some (.int p.cur) := rfl
@[simp] theorem v_pset1 {p : Pen} : penSet p i 1 = some { p with at_ := i } := rfl
@[simp] theorem v_pset2 {p : Pen} : penSet p i 2 = some { p with cur := i } := rfl
@[simp] theorem v_atI0 : atI (d :: ds) 0 = some d := by
  unfold atI ixN
  rw [if_pos (by decide), if_pos (by rw [List.length_cons]; omega)]
  rfl
theorem atI_nat {α : Type} {xs : List α} (n : Nat) : atI xs (n : Int) = xs[n]? := by
  unfold atI ixN
  rw [if_pos (by omega)]
  by_cases h : n < xs.length
  · rw [if_pos (by omega), Option.bind_some]
    rw [show ((n : Int)).toNat = n by omega]
  · rw [if_neg (by omega), Option.bind_none]
    rw [List.getElem?_eq_none (by omega)]
theorem atI_of {α : Type} {xs : List α} {i : Int} (h0 : 0 ≤ i) : atI xs i = xs[i.toNat]? := by
  have := atI_nat (xs := xs) i.toNat
  rwa [Int.toNat_of_nonneg h0] at this
@[simp] theorem v_atI1 {e : D} : atI (d :: e :: ds) 1 = some e := by
  rw [atI_of (by decide)]
  rfl
end
section
variable {E : (DE S)} {s0 : Sl} {l0 : List Sl} {pn : S} {t u : (DS S)} {te tv uv : (DW S)} {ta tb tc : (OW S)} {tt ut : (BW S)} {tl th : (PW_ S)} {aa : (AW S)} {it : (IW S)} {g : (GW S)} {gs : (GWs S)} {i j l n : Nat} {d : D} {xs : List D} {gg g' : D → D → Option Rs} {gu : D → Option Rs} {gl : List D → Option Rs}
variable {P : Rs → (En S) → Prop} {Po : Tk → (En S) → Prop} {Pb : Bool → (En S) → Prop} {Pp : Option Int → (En S) → Prop} {Pa : List Tk → (En S) → Prop} {Pi : Sc → (En S) → Prop} {Pg : (En S) → Prop} {Q : D → S → Prop}
@[simp↓] theorem e_nx {f : (En S) → Prop} {r : D → S → Prop} {b c : (En S) → Prop} {ρ : (En S)} : DE.nx ⟨f, r, b, c⟩ ρ = f ρ := rfl
@[simp↓] theorem e_rt {f : (En S) → Prop} {r : D → S → Prop} {b c : (En S) → Prop} : DE.rt ⟨f, r, b, c⟩ d pn = r d pn := rfl
@[simp↓] theorem e_bk {f : (En S) → Prop} {r : D → S → Prop} {b c : (En S) → Prop} {ρ : (En S)} : DE.bk ⟨f, r, b, c⟩ ρ = b ρ := rfl
@[simp↓] theorem e_ct {f : (En S) → Prop} {r : D → S → Prop} {b c : (En S) → Prop} {ρ : (En S)} : DE.ct ⟨f, r, b, c⟩ ρ = c ρ := rfl
@[simp↓] theorem z_sNil : sNil E ⟨s0 :: l0, pn⟩ = E.nx ⟨s0 :: l0, pn⟩ := rfl
@[simp↓] theorem z_sCons : sCons t u E ⟨s0 :: l0, pn⟩ = t { E with nx := fun ρ1 => u E ρ1 } ⟨s0 :: l0, pn⟩ := rfl
@[simp↓] theorem z_dSet : dSet i te E ⟨s0 :: l0, pn⟩ = te ⟨s0 :: l0, pn⟩ fun r ρ1 => E.nx ⟨ρ1.sl.set i r.sl, ρ1.pn⟩ := rfl
@[simp↓] theorem z_dRet : dRet te E ⟨s0 :: l0, pn⟩ = te ⟨s0 :: l0, pn⟩ fun r ρ1 => E.rt r.d ρ1.pn := rfl
@[simp↓] theorem z_dRetN : dRetN E ⟨s0 :: l0, pn⟩ = E.rt .none pn := rfl
@[simp↓] theorem z_sPass : sPass E ⟨s0 :: l0, pn⟩ = E.nx ⟨s0 :: l0, pn⟩ := rfl
@[simp↓] theorem z_sCont : sCont E ⟨s0 :: l0, pn⟩ = E.ct ⟨s0 :: l0, pn⟩ := rfl
@[simp↓] theorem z_sBreak : sBreak E ⟨s0 :: l0, pn⟩ = E.bk ⟨s0 :: l0, pn⟩ := rfl
@[simp↓] theorem z_dExpr : dExpr te E ⟨s0 :: l0, pn⟩ = te ⟨s0 :: l0, pn⟩ fun _ ρ1 => E.nx ρ1 := rfl
@[simp↓] theorem z_dIfS : dIfS tt t u E ⟨s0 :: l0, pn⟩ = tt ⟨s0 :: l0, pn⟩ fun b ρ1 => if b = true then t E ρ1 else u E ρ1 := rfl
@[simp↓] theorem z_dSetT : dSetT g te E ⟨s0 :: l0, pn⟩ = te ⟨s0 :: l0, pn⟩ fun r ρ1 => g r.d ρ1 E.nx := rfl
@[simp↓] theorem z_dPar2 : dPar2 i j aa E ⟨s0 :: l0, pn⟩ = aa ⟨s0 :: l0, pn⟩ fun ks ρ1 => gets (tmps ks) fun rs => match rs with
  | [r1, r2] => E.nx ⟨(ρ1.sl.set i r1.sl).set j r2.sl, ρ1.pn⟩
  | _ => False := rfl
@[simp↓] theorem z_dPar3 : dPar3 i j l aa E ⟨s0 :: l0, pn⟩ = aa ⟨s0 :: l0, pn⟩ fun ks ρ1 => gets (tmps ks) fun rs => match rs with
  | [r1, r2, r3] => E.nx ⟨((ρ1.sl.set i r1.sl).set j r2.sl).set l r3.sl, ρ1.pn⟩
  | _ => False := rfl
@[simp↓] theorem z_dAug {f : Int → Int → Int} : dAug i f te E ⟨s0 :: l0, pn⟩ = gets ((rdS (s0 :: l0) i).bind D.int?) fun a => te ⟨s0 :: l0, pn⟩ fun r ρ1 => gets (D.int? r.d) fun b => E.nx ⟨ρ1.sl.set i (.val (.int (f a b))), ρ1.pn⟩ := by rw [← rdS_eq]; rfl
@[simp↓] theorem z_dSetIx : dSetIx i ta te E ⟨s0 :: l0, pn⟩ = te ⟨s0 :: l0, pn⟩ fun r ρ1 => (own? ρ1.sl i).isSome = true ∧ ta ρ1 fun k ρ2 => gets ((k.rd ρ2).bind D.int?) fun z => gets (own? ρ2.sl i) fun xs => gets (ixN xs.length z) fun j => E.nx ⟨ρ2.sl.set i (.own (xs.set j r.d)), ρ2.pn⟩ := rfl
@[simp↓] theorem z_dPenSet {E : DE (Option Pen)} {te : DW (Option Pen)} {pn : Option (Pen)} {j : Int} : dPenSet i j te E ⟨s0 :: l0, pn⟩ = te ⟨s0 :: l0, pn⟩ fun r ρ1 => isPen ρ1.sl i = true ∧ gets ρ1.pn fun p => gets (D.int? r.d) fun z => gets (penSet p z j) fun p' => E.nx ⟨ρ1.sl, some p'⟩ := rfl
@[simp↓] theorem z_dFor {b : (DS S)} : dFor it g b E ⟨s0 :: l0, pn⟩ = it ⟨s0 :: l0, pn⟩ fun c ρ1 => (c.ks.any Tk.slot? = false) ∧ gets (c.items ρ1) fun items => items.length ≤ sizeLine → forW g b E items ρ1 := rfl
@[simp↓] theorem z_dLc {vs : List Nat} : dLc it g tt ta vs ⟨s0 :: l0, pn⟩ P = it ⟨s0 :: l0, pn⟩ fun c ρ1 => gets (c.items ρ1) fun items => items.length ≤ sizeLine →
  lcW c items g tt ta vs (fun acc ρ2 => P (.own acc) ⟨unwipe ρ1.sl ρ2.sl vs, ρ2.pn⟩) items [] ⟨wipeD ρ1.sl vs, ρ1.pn⟩ := rfl
@[simp↓] theorem z_oSlot : oSlot i ⟨s0 :: l0, pn⟩ Po = (hasS (s0 :: l0) i = true ∧ Po (.slot i) ⟨s0 :: l0, pn⟩) := rfl
@[simp↓] theorem z_oFix : oFix i ⟨s0 :: l0, pn⟩ Po = match (s0 :: l0)[i]? with
  | some (.val d) => Po (.tmp (.val d)) ⟨s0 :: l0, pn⟩
  | some (.own xs) => Po (.tmp (.val (.list xs))) ⟨(s0 :: l0).set i (.val (.list xs)), pn⟩
  | some (.bor xs) => Po (.bt xs) ⟨s0 :: l0, pn⟩
  | _ => False := rfl
@[simp↓] theorem z_dVar : dVar i ⟨s0 :: l0, pn⟩ P = match (s0 :: l0)[i]? with
  | some (.val d) => P (.val d) ⟨s0 :: l0, pn⟩
  | some (.own xs) => P (.val (.list xs)) ⟨(s0 :: l0).set i (.val (.list xs)), pn⟩
  | _ => False := rfl
@[simp↓] theorem z_dC : dC d ⟨s0 :: l0, pn⟩ P = P (.val d) ⟨s0 :: l0, pn⟩ := rfl
@[simp↓] theorem z_tmpD : tmpD te ⟨s0 :: l0, pn⟩ Po = te ⟨s0 :: l0, pn⟩ fun r ρ' => Po (.tmp r) ρ' := rfl
@[simp↓] theorem z_oVal : oVal te ⟨s0 :: l0, pn⟩ Po = te ⟨s0 :: l0, pn⟩ fun r ρ' => Po (.tmp (.val r.d)) ρ' := rfl
@[simp↓] theorem z_dBin : dBin gg ta tb ⟨s0 :: l0, pn⟩ P = ta ⟨s0 :: l0, pn⟩ fun k1 ρ1 => tb ρ1 fun k2 ρ2 => gets (k1.rd ρ2) fun d1 => gets (k2.rd ρ2) fun d2 => gets (gg d1 d2) fun r => P r ρ2 := rfl
@[simp↓] theorem z_dUn : dUn gu ta ⟨s0 :: l0, pn⟩ P = ta ⟨s0 :: l0, pn⟩ fun k ρ1 => gets (k.rd ρ1) fun d => gets (gu d) fun r => P r ρ1 := rfl
@[simp↓] theorem z_dIsi {T : Ty} : dIsi T ta ⟨s0 :: l0, pn⟩ P = ta ⟨s0 :: l0, pn⟩ fun k ρ1 => gets (k.rd ρ1) fun d => P (.val (.bool (isi T d))) ρ1 := rfl
@[simp↓] theorem z_dIsi2 {T U : Ty} : dIsi2 T U ta ⟨s0 :: l0, pn⟩ P = ta ⟨s0 :: l0, pn⟩ fun k ρ1 => gets (k.rd ρ1) fun d => P (.val (.bool (isi T d || isi U d))) ρ1 := rfl
@[simp↓] theorem z_dTst : dTst ta ⟨s0 :: l0, pn⟩ Pb = ta ⟨s0 :: l0, pn⟩ fun k ρ' => gets ((k.rd ρ').bind D.bool?) fun b => Pb b ρ' := rfl
@[simp↓] theorem z_dNot : dNot tt ⟨s0 :: l0, pn⟩ Pb = tt ⟨s0 :: l0, pn⟩ fun b ρ' => Pb (!b) ρ' := rfl
@[simp↓] theorem z_dAnd : dAnd tt ut ⟨s0 :: l0, pn⟩ Pb = tt ⟨s0 :: l0, pn⟩ fun b ρ' => if b = true then ut ρ' Pb else Pb false ρ' := rfl
@[simp↓] theorem z_dOr : dOr tt ut ⟨s0 :: l0, pn⟩ Pb = tt ⟨s0 :: l0, pn⟩ fun b ρ' => if b = true then Pb true ρ' else ut ρ' Pb := rfl
@[simp↓] theorem z_dAndV : dAndV tv uv ⟨s0 :: l0, pn⟩ P = tv ⟨s0 :: l0, pn⟩ fun r ρ1 => gets (D.bool? r.d) fun b => if b = true then uv ρ1 P else P (.val (.bool false)) ρ1 := rfl
@[simp↓] theorem z_dOrV : dOrV tv uv ⟨s0 :: l0, pn⟩ P = tv ⟨s0 :: l0, pn⟩ fun r ρ1 => gets (D.bool? r.d) fun b => if b = true then P (.val (.bool true)) ρ1 else uv ρ1 P := rfl
@[simp↓] theorem z_dNotV : dNotV tv ⟨s0 :: l0, pn⟩ P = tv ⟨s0 :: l0, pn⟩ fun r ρ1 => gets (D.bool? r.d) fun b => P (.val (.bool (!b))) ρ1 := rfl
@[simp↓] theorem z_dIf : dIf tt ta tb ⟨s0 :: l0, pn⟩ Po = tt ⟨s0 :: l0, pn⟩ fun b ρ1 => if b = true then ta ρ1 Po else tb ρ1 Po := rfl
@[simp↓] theorem z_dIfE : dIfE tt tv uv ⟨s0 :: l0, pn⟩ P = tt ⟨s0 :: l0, pn⟩ fun b ρ1 => if b = true then tv ρ1 P else uv ρ1 P := rfl
@[simp↓] theorem z_dChain : dChain gg g' ta tb tc ⟨s0 :: l0, pn⟩ P = ta ⟨s0 :: l0, pn⟩ fun k1 ρ1 => tb ρ1 fun k2 ρ2 => gets (k1.rd ρ2) fun d1 => gets (k2.rd ρ2) fun d2 => gets ((gg d1 d2).bind Rs.b?) fun b =>
  if b = true then tc ρ2 fun k3 ρ3 => gets (k2.rd ρ3) fun d2' => gets (k3.rd ρ3) fun d3 => gets (g' d2' d3) fun r => P r ρ3 else P (.val (.bool false)) ρ2 := rfl
@[simp↓] theorem z_aNil : aNil ⟨s0 :: l0, pn⟩ Pa = Pa [] ⟨s0 :: l0, pn⟩ := rfl
@[simp↓] theorem z_aCons : aCons ta aa ⟨s0 :: l0, pn⟩ Pa = ta ⟨s0 :: l0, pn⟩ fun k ρ1 => aa ρ1 fun ks ρ2 => Pa (k :: ks) ρ2 := rfl
@[simp↓] theorem z_dCB : dCB gl aa ⟨s0 :: l0, pn⟩ P = aa ⟨s0 :: l0, pn⟩ fun ks ρ1 => gets (rds ρ1 ks) fun ds => gets (gl ds) fun r => P r ρ1 := rfl
@[simp↓] theorem z_dDisp {mk : List D → Rs} : dDisp mk aa ⟨s0 :: l0, pn⟩ P = aa ⟨s0 :: l0, pn⟩ fun ks ρ1 => gets (vals ks) fun ds => ds.length ≤ 1000 ∧ P (mk ds) ρ1 := rfl
@[simp↓] theorem z_dDispT : dDisp mkT aa ⟨s0 :: l0, pn⟩ P = aa ⟨s0 :: l0, pn⟩ fun ks ρ1 => gets (vals ks) fun ds => ds.length ≤ 1000 ∧ P (.val (.tuple ds)) ρ1 := rfl
@[simp↓] theorem z_dCall {dsp : DSp S} : dCall n dsp aa ⟨s0 :: l0, pn⟩ P = aa ⟨s0 :: l0, pn⟩ fun ks ρ1 => gets (toArgs ρ1 ks) fun as => as.length = n ∧ dsp as ρ1.pn fun d pn' => P (.val d) ⟨ρ1.sl, pn'⟩ := rfl
@[simp↓] theorem z_pNone : pNone ⟨s0 :: l0, pn⟩ Pp = Pp none ⟨s0 :: l0, pn⟩ := rfl
@[simp↓] theorem z_pSome : pSome ta ⟨s0 :: l0, pn⟩ Pp = ta ⟨s0 :: l0, pn⟩ fun k ρ1 => gets ((k.rd ρ1).bind D.int?) fun i => Pp (some i) ρ1 := rfl
@[simp↓] theorem z_dSl : dSl ta tl th ⟨s0 :: l0, pn⟩ P = ta ⟨s0 :: l0, pn⟩ fun k ρ1 => tl ρ1 fun l ρ2 => th ρ2 fun h ρ3 => gets (k.rd ρ3) fun d => gets (slD d l h) fun r => P r ρ3 := rfl
@[simp↓] theorem z_dScr : dScr i tl th ⟨s0 :: l0, pn⟩ P = ((scr? (s0 :: l0) i).isSome = true ∧ tl ⟨s0 :: l0, pn⟩ fun l ρ2 => th ρ2 fun h ρ3 => gets (scr? ρ3.sl i) fun ns => P (.own (cutD (ns.map .int) l h)) ρ3) := rfl
@[simp↓] theorem z_dPen {P : Rs → En (Option Pen) → Prop} {pn : Option (Pen)} {j : Int} : dPen i j ⟨s0 :: l0, pn⟩ P = (isPen (s0 :: l0) i = true ∧ gets pn fun p => gets (penD p j) fun d => P (.val d) ⟨s0 :: l0, pn⟩) := rfl
@[simp↓] theorem z_dAppend : dAppend i ta ⟨s0 :: l0, pn⟩ P = ((own? (s0 :: l0) i).isSome = true ∧ ta ⟨s0 :: l0, pn⟩ fun k ρ1 => gets k.valD fun d => gets (own? ρ1.sl i) fun xs => xs.length < sizeLine ∧ P (.val .none) ⟨ρ1.sl.set i (.own (xs ++ [d])), ρ1.pn⟩) := rfl
@[simp↓] theorem z_dPop : dPop i ⟨s0 :: l0, pn⟩ P = gets (own? (s0 :: l0) i) fun xs => gets (xs[xs.length - 1]?) fun d => P (.val d) ⟨(s0 :: l0).set i (.own xs.dropLast), pn⟩ := rfl
@[simp↓] theorem z_gN : gN i d ⟨s0 :: l0, pn⟩ Pg = Pg ⟨(s0 :: l0).set i (.val d), pn⟩ := rfl
@[simp↓] theorem z_gT : gT n gs (.tuple xs) ⟨s0 :: l0, pn⟩ Pg = (xs.length = n ∧ gs xs ⟨s0 :: l0, pn⟩ Pg) := rfl
@[simp↓] theorem z_gNil : gNil xs ⟨s0 :: l0, pn⟩ Pg = (xs = [] ∧ Pg ⟨s0 :: l0, pn⟩) := rfl
@[simp↓] theorem z_gCons : gCons g gs (d :: xs) ⟨s0 :: l0, pn⟩ Pg = g d ⟨s0 :: l0, pn⟩ fun ρ1 => gs xs ρ1 Pg := rfl
@[simp↓] theorem z_dYes : dYes ⟨s0 :: l0, pn⟩ Pb = Pb true ⟨s0 :: l0, pn⟩ := rfl
@[simp↓] theorem z_iRange1 : iRange1 ta ⟨s0 :: l0, pn⟩ Pi = ta ⟨s0 :: l0, pn⟩ fun k ρ1 => gets ((k.rd ρ1).bind D.int?) fun j => (-(2 ^ 62) ≤ j ∧ j ≤ 16777216) ∧ Pi ⟨[], fun _ => some (rangeD 0 j.toNat)⟩ ρ1 := rfl
@[simp↓] theorem z_iRange2 : iRange2 ta tb ⟨s0 :: l0, pn⟩ Pi = ta ⟨s0 :: l0, pn⟩ fun k ρ1 => tb ρ1 fun k2 ρ2 => gets ((k.rd ρ2).bind D.int?) fun i => gets ((k2.rd ρ2).bind D.int?) fun j => (-(2 ^ 62) ≤ i ∧ i < 2 ^ 62 ∧ -(2 ^ 62) ≤ j ∧ j < 2 ^ 62 ∧ j - i ≤ 16777216) ∧ Pi ⟨[], fun _ => some (rangeD i (j - i).toNat)⟩ ρ2 := rfl
@[simp↓] theorem z_iEn : iEn aa ⟨s0 :: l0, pn⟩ Pi = aa ⟨s0 :: l0, pn⟩ fun ks ρ1 => match ks with
  | [k] => gets ((k.rd ρ1).bind kindD) fun c => Pi ⟨[k], enumF c⟩ ρ1
  | _ => False := rfl
@[simp↓] theorem z_iZp {st : Bool} : iZp st aa ⟨s0 :: l0, pn⟩ Pi = aa ⟨s0 :: l0, pn⟩ fun ks ρ1 => match ks with
  | [k, k2] => gets ((k.rd ρ1).bind kindD) fun c1 => gets ((k2.rd ρ1).bind kindD) fun c2 => Pi ⟨[k, k2], zipF st c1 c2⟩ ρ1
  | _ => False := rfl
@[simp↓] theorem z_iSeq : iSeq ta ⟨s0 :: l0, pn⟩ Pi = ta ⟨s0 :: l0, pn⟩ fun k ρ1 => gets (k.rd ρ1) fun d => match d with
  | .list _ => Pi ⟨[k], listF⟩ ρ1
  | .tuple _ => Pi ⟨[k], tupF⟩ ρ1
  | _ => False := rfl
@[simp↓] theorem g_some {α : Type} {a : α} {k : α → Prop} : gets (some a) k = k a := rfl
@[simp↓] theorem g_tmpV {ρ : En S} {k : D → Prop} : gets (Tk.rd ρ (.tmp (.val d))) k = k d := rfl
@[simp↓] theorem g_tmpO {ρ : En S} {k : D → Prop} : gets (Tk.rd ρ (.tmp (.own xs))) k = k (.list xs) := rfl
@[simp↓] theorem g_tmpM {ρ : En S} {k : D → Prop} : gets (Tk.rd ρ (.tmp (mkT xs))) k = k (.tuple xs) := rfl
@[simp↓] theorem g_boolM {k : Bool → Prop} : gets (D.bool? (Rs.d (mkT xs))) k = False := rfl
@[simp↓] theorem g_bt {ρ : En S} {k : D → Prop} : gets (Tk.rd ρ (.bt xs)) k = k (.list xs) := rfl
@[simp↓] theorem g_slot {k : D → Prop} : gets (Tk.rd ⟨s0 :: l0, pn⟩ (.slot i)) k = gets (rdS (s0 :: l0) i) k := by rw [← rdS_eq]; rfl
@[simp↓] theorem g_rv {k : D → Prop} : gets (rdS (.val d :: l0) 0) k = k d := rfl
@[simp↓] theorem g_ro {k : D → Prop} : gets (rdS (.own xs :: l0) 0) k = k (.list xs) := rfl
@[simp↓] theorem g_rb {k : D → Prop} : gets (rdS (.bor xs :: l0) 0) k = k (.list xs) := rfl
@[simp↓] theorem g_rs {k : D → Prop} : gets (rdS (s0 :: l0) (n + 1)) k = gets (rdS l0 n) k := rfl
@[simp↓] theorem g_bind {α β : Type} {o : Option α} {f : α → Option β} {k : β → Prop} : gets (o.bind f) k = gets o fun a => gets (f a) k := by cases o <;> rfl
@[simp↓] theorem g_map {α β : Type} {o : Option α} {f : α → β} {k : β → Prop} : gets (o.map f) k = gets o fun a => k (f a) := by cases o <;> rfl
@[simp↓] theorem g_ite {α : Type} {c : Prop} [Decidable c] {a : α} {k : α → Prop} : gets (if c then some a else none) k = (c ∧ k a) := by by_cases h : c <;> simp [h]
@[simp↓] theorem g_bool {b : Bool} {k : Bool → Prop} : gets (D.bool? (.bool b)) k = k b := rfl
@[simp↓] theorem g_boolV {r : D} {k : Bool → Prop} : gets (D.bool? (Rs.d (.val r))) k = gets (D.bool? r) k := rfl
@[simp↓] theorem g_int {i : Int} {k : Int → Prop} : gets (D.int? (.int i)) k = k i := rfl
@[simp↓] theorem g_intV {r : D} {k : Int → Prop} : gets (D.int? (Rs.d (.val r))) k = gets (D.int? r) k := rfl
@[simp↓] theorem g_Rsb {r : Rs} {k : Bool → Prop} : gets (Rs.b? r) k = gets (D.bool? r.d) k := rfl
@[simp↓] theorem g_lt {i j : Int} {k : Rs → Prop} : gets (ltD (.int i) (.int j)) k = k (.val (.bool (decide (i < j)))) := rfl
@[simp↓] theorem g_le {i j : Int} {k : Rs → Prop} : gets (leD (.int i) (.int j)) k = k (.val (.bool (decide (i ≤ j)))) := rfl
@[simp↓] theorem g_gt {i j : Int} {k : Rs → Prop} : gets (gtD (.int i) (.int j)) k = k (.val (.bool (decide (j < i)))) := rfl
@[simp↓] theorem g_ge {i j : Int} {k : Rs → Prop} : gets (geD (.int i) (.int j)) k = k (.val (.bool (decide (j ≤ i)))) := rfl
@[simp↓] theorem g_addI {i j : Int} {k : Rs → Prop} : gets (addD (.int i) (.int j)) k = k (.val (.int (i + j))) := rfl
@[simp↓] theorem g_addL {ys : List D} {k : Rs → Prop} : gets (addD (.list xs) (.list ys)) k = (xs.length + ys.length ≤ sizeLine ∧ k (.own (xs ++ ys))) := by unfold addD; exact g_ite
@[simp↓] theorem g_addT {ys : List D} {k : Rs → Prop} : gets (addD (.tuple xs) (.tuple ys)) k = (xs.length + ys.length ≤ sizeLine ∧ k (.val (.tuple (xs ++ ys)))) := by unfold addD; exact g_ite
@[simp↓] theorem g_sub {i j : Int} {k : Rs → Prop} : gets (subD (.int i) (.int j)) k = k (.val (.int (i - j))) := rfl
@[simp↓] theorem g_mulI {i j : Int} {k : Rs → Prop} : gets (mulT (.int i) (.int j)) k = (CMulW i j ∧ k (.val (.int (i * j)))) := by unfold mulT mulD; exact g_ite
@[simp↓] theorem g_mulT {i : Int} {k : Rs → Prop} : gets (mulT (.tuple xs) (.int i)) k = ((xs ≠ [] ∧ 1 ≤ i ∧ i ≤ 1000 ∧ xs.length ≤ 1000) ∧ k (.val (.tuple (List.replicate i.toNat xs).flatten))) := by unfold mulT; exact g_ite
@[simp↓] theorem g_mulL {i : Int} {k : Rs → Prop} : gets (mulT (.list xs) (.int i)) k = ((-(2 ^ 63) ≤ i ∧ i < 2 ^ 63 ∧ xs.length * i.toNat ≤ sizeLine) ∧ k (.own (List.replicate i.toNat xs).flatten)) := by unfold mulT mulD; exact g_ite
@[simp↓] theorem g_addS {x y : Str} {k : Rs → Prop} : gets (addD (.str x) (.str y)) k = (x.length + y.length ≤ sizeLine ∧ k (.val (.str (x ++ y)))) := by unfold addD; exact g_ite
@[simp↓] theorem g_fdiv {i j : Int} {k : Rs → Prop} : gets (fdivD (.int i) (.int j)) k = (CDivW i j ∧ k (.val (.int (i / j)))) := by unfold fdivD; exact g_ite
@[simp↓] theorem g_mod {i j : Int} {k : Rs → Prop} : gets (modD (.int i) (.int j)) k = (0 < j ∧ k (.val (.int (i % j)))) := by unfold modD; exact g_ite
@[simp↓] theorem g_pow {i j : Int} {k : Rs → Prop} : gets (powD (.int i) (.int j)) k = (CPow i j ∧ k (.val (.int (i ^ j.toNat)))) := by unfold powD; exact g_ite
@[simp↓] theorem g_neg {i : Int} {k : Rs → Prop} : gets (negD (.int i)) k = k (.val (.int (-i))) := rfl
@[simp↓] theorem g_ixL {i : Int} {k : Rs → Prop} : gets (ixD (.list xs) (.int i)) k = gets (atI xs i) fun d => k (.val d) := g_map
@[simp↓] theorem g_ixT {i : Int} {k : Rs → Prop} : gets (ixD (.tuple xs) (.int i)) k = gets (atI xs i) fun d => k (.val d) := g_map
@[simp↓] theorem g_at0 {k : D → Prop} : gets (atI (d :: xs) 0) k = k d := by rw [v_atI0]; rfl
@[simp↓] theorem g_at1 {e : D} {k : D → Prop} : gets (atI (d :: e :: xs) 1) k = k e := by rw [v_atI1]; rfl
@[simp↓] theorem g_slL {l h : Option Int} {k : Rs → Prop} : gets (slD (.list xs) l h) k = k (.own (cutD xs l h)) := rfl
@[simp↓] theorem g_slT {l h : Option Int} {k : Rs → Prop} : gets (slD (.tuple xs) l h) k = k (.val (.tuple (cutD xs l h))) := rfl
@[simp↓] theorem g_revL {k : Rs → Prop} : gets (revD (.list xs)) k = k (.own xs.reverse) := rfl
@[simp↓] theorem g_revT {k : Rs → Prop} : gets (revD (.tuple xs)) k = k (.val (.tuple xs.reverse)) := rfl
@[simp↓] theorem g_lenL {k : Rs → Prop} : gets (lenD [.list xs]) k = k (.val (.int xs.length)) := rfl
@[simp↓] theorem g_lenT {k : Rs → Prop} : gets (lenD [.tuple xs]) k = k (.val (.int xs.length)) := rfl
@[simp↓] theorem g_listL {k : Rs → Prop} : gets (listD [.list xs]) k = k (.own xs) := rfl
@[simp↓] theorem g_listT {k : Rs → Prop} : gets (listD [.tuple xs]) k = k (.own xs) := rfl
@[simp↓] theorem g_tupL {k : Rs → Prop} : gets (tupleD [.list xs]) k = k (.val (.tuple xs)) := rfl
@[simp↓] theorem g_tupT {k : Rs → Prop} : gets (tupleD [.tuple xs]) k = k (.val (.tuple xs)) := rfl
@[simp↓] theorem g_intI {i : Int} {k : Rs → Prop} : gets (intD [.int i]) k = k (.val (.int i)) := rfl
@[simp↓] theorem g_intB {b : Bool} {k : Rs → Prop} : gets (intD [.bool b]) k = k (.val (.int (if b then 1 else 0))) := rfl
@[simp↓] theorem g_sumL {k : Rs → Prop} : gets (sumD [.list xs]) k = gets (ints? xs) fun ns => k (.val (.int ns.sum)) := g_map
@[simp↓] theorem g_sumT {k : Rs → Prop} : gets (sumD [.tuple xs]) k = gets (ints? xs) fun ns => k (.val (.int ns.sum)) := g_map
@[simp↓] theorem g_minL {k : Rs → Prop} : gets (minD [.list xs]) k = gets (ints? xs) fun ns => gets (minI ns) fun m => k (.val (.int m)) := by show gets ((ints? xs).bind _) k = _; rw [g_bind]; congr 1; funext ns; exact g_map
@[simp↓] theorem g_allL {k : Rs → Prop} : gets (allD [.list xs]) k = gets (bls? xs) fun bs => k (.val (.bool (bs.all id))) := g_map
@[simp↓] theorem g_maxL {k : Rs → Prop} : gets (maxD [.list xs]) k = gets (ints? xs) fun ns => gets (maxI ns) fun m => k (.val (.int m)) := by show gets ((ints? xs).bind _) k = _; rw [g_bind]; congr 1; funext ns; exact g_map
@[simp↓] theorem g_max2 {i j : Int} {k : Rs → Prop} : gets (maxD [.int i, .int j]) k = k (.val (.int (max i j))) := rfl
@[simp↓] theorem g_eq {e : D} {k : Rs → Prop} : gets (eqD d e) k = (eqOk d e = true ∧ k (.val (.bool (PyData.eqv d e)))) := by unfold eqD; exact g_ite
@[simp↓] theorem g_ne {e : D} {k : Rs → Prop} : gets (neD d e) k = (eqOk d e = true ∧ k (.val (.bool (!PyData.eqv d e)))) := by unfold neD; exact g_ite
@[simp↓] theorem g_is {k : Rs → Prop} : gets (isD false d .none) k = k (.val (.bool (isNone d))) := rfl
@[simp↓] theorem g_isn {k : Rs → Prop} : gets (isD true d .none) k = k (.val (.bool (!isNone d))) := rfl
@[simp↓] theorem g_repr {k : Rs → Prop} : gets (reprD [d]) k = (reprOk d ∧ k (.val (.str d.shown))) := by unfold reprD; exact g_ite
@[simp↓] theorem g_vals0 {k : List D → Prop} : gets (vals []) k = k [] := rfl
@[simp↓] theorem g_vals {ks : List Tk} {k : List D → Prop} : gets (vals (.tmp (.val d) :: ks)) k = gets (vals ks) fun ds => k (d :: ds) := g_bind
@[simp↓] theorem g_rds0 {ρ : En S} {k : List D → Prop} : gets (rds ρ []) k = k [] := rfl
@[simp↓] theorem g_rds {ρ : En S} {kk : Tk} {ks : List Tk} {k : List D → Prop} : gets (rds ρ (kk :: ks)) k = gets (kk.rd ρ) fun d => gets (rds ρ ks) fun ds => k (d :: ds) := by rw [rds_cons, g_bind]; congr 1; funext d; exact g_bind
@[simp↓] theorem g_ta0 {ρ : En S} {k : List Arg → Prop} : gets (toArgs ρ []) k = k [] := rfl
@[simp↓] theorem g_ta {ρ : En S} {kk : Tk} {ks : List Tk} {k : List Arg → Prop} : gets (toArgs ρ (kk :: ks)) k = gets (toArg ρ kk) fun d => gets (toArgs ρ ks) fun ds => k (d :: ds) := by rw [v_toArgs_cons, g_bind]; congr 1; funext d; exact g_bind
@[simp↓] theorem g_taT {ρ : En S} {k : Arg → Prop} : gets (toArg ρ (.tmp (.val d))) k = k (.val d) := rfl
@[simp↓] theorem g_taS {k : Arg → Prop} : gets (toArg ⟨s0 :: l0, pn⟩ (.slot i)) k = gets (argS (s0 :: l0) i) k := by rw [← argS_eq]; rfl
@[simp↓] theorem g_asV {k : Arg → Prop} : gets (argS (.val d :: l0) 0) k = k (.val d) := rfl
@[simp↓] theorem g_asO {k : Arg → Prop} : gets (argS (.own xs :: l0) 0) k = k (.bor xs) := rfl
@[simp↓] theorem g_asB {k : Arg → Prop} : gets (argS (.bor xs :: l0) 0) k = k (.bor xs) := rfl
@[simp↓] theorem g_asP {k : Arg → Prop} : gets (argS (.pen :: l0) 0) k = k .pen := rfl
@[simp↓] theorem g_asS {k : Arg → Prop} : gets (argS (s0 :: l0) (n + 1)) k = gets (argS l0 n) k := rfl
@[simp↓] theorem g_tm0 {k : List Rs → Prop} : gets (tmps []) k = k [] := rfl
@[simp↓] theorem g_tm {r : Rs} {ks : List Tk} {k : List Rs → Prop} : gets (tmps (.tmp r :: ks)) k = gets (tmps ks) fun rs => k (r :: rs) := g_map
@[simp↓] theorem g_vd {k : D → Prop} : gets (Tk.valD (.tmp (.val d))) k = k d := rfl
@[simp↓] theorem g_p0 {p : Pen} {k : D → Prop} : gets (penD p 0) k = k (.list (p.cells.map .int)) := rfl
@[simp↓] theorem g_p1 {p : Pen} {k : D → Prop} : gets (penD p 1) k = k (.int p.at_) := rfl
@[simp↓] theorem g_p2 {p : Pen} {k : D → Prop} : gets (penD p 2) k = k (.int p.cur) := rfl
@[simp↓] theorem g_q1 {p : Pen} {i : Int} {k : Pen → Prop} : gets (penSet p i 1) k = k ⟨p.cells, i, p.cur⟩ := rfl
@[simp↓] theorem g_q2 {p : Pen} {i : Int} {k : Pen → Prop} : gets (penSet p i 2) k = k ⟨p.cells, p.at_, i⟩ := rfl
@[simp↓] theorem g_kdL {k : Bool → Prop} : gets (kindD (.list xs)) k = k false := rfl
@[simp↓] theorem g_kdT {k : Bool → Prop} : gets (kindD (.tuple xs)) k = k true := rfl
@[simp↓] theorem g_itR {ρ : En S} {ys : List D} {k : List D → Prop} : gets (Sc.items ⟨[], fun _ => some ys⟩ ρ) k = k ys := rfl
@[simp↓] theorem g_it1 {ρ : En S} {kk : Tk} {f : List D → Option (List D)} {k : List D → Prop} : gets (Sc.items ⟨[kk], f⟩ ρ) k = gets (kk.rd ρ) fun d => gets (f [d]) k := by unfold Sc.items; rw [g_bind, g_rds]; rfl
@[simp↓] theorem g_it2 {ρ : En S} {k1 k2 : Tk} {f : List D → Option (List D)} {k : List D → Prop} : gets (Sc.items ⟨[k1, k2], f⟩ ρ) k = gets (k1.rd ρ) fun d => gets (k2.rd ρ) fun e => gets (f [d, e]) k := by unfold Sc.items; rw [g_bind, g_rds]; congr 1; funext d; rw [g_rds]; rfl
@[simp↓] theorem g_lF {k : List D → Prop} : gets (listF [.list xs]) k = k xs := rfl
@[simp↓] theorem g_tF {k : List D → Prop} : gets (tupF [.tuple xs]) k = k xs := rfl
@[simp↓] theorem g_eFL {k : List D → Prop} : gets (enumF false [.list xs]) k = k (enumL 0 xs) := rfl
@[simp↓] theorem g_eFT {k : List D → Prop} : gets (enumF true [.tuple xs]) k = k (enumL 0 xs) := rfl
@[simp↓] theorem g_zNlistlist {ys : List D} {k : List D → Prop} : gets (zipF false false false [.list xs, .list ys]) k = k (pairL xs ys) := rfl
@[simp↓] theorem g_zSlistlist {ys : List D} {k : List D → Prop} : gets (zipF true false false [.list xs, .list ys]) k = (xs.length = ys.length ∧ k (pairL xs ys)) := by unfold zipF; simp only [Option.bind_some, seqK_list, seqK_list]; by_cases h : xs.length = ys.length <;> simp [h]
@[simp↓] theorem g_zNlisttuple {ys : List D} {k : List D → Prop} : gets (zipF false false true [.list xs, .tuple ys]) k = k (pairL xs ys) := rfl
@[simp↓] theorem g_zSlisttuple {ys : List D} {k : List D → Prop} : gets (zipF true false true [.list xs, .tuple ys]) k = (xs.length = ys.length ∧ k (pairL xs ys)) := by unfold zipF; simp only [Option.bind_some, seqK_list, seqK_tuple]; by_cases h : xs.length = ys.length <;> simp [h]
@[simp↓] theorem g_zNtuplelist {ys : List D} {k : List D → Prop} : gets (zipF false true false [.tuple xs, .list ys]) k = k (pairL xs ys) := rfl
@[simp↓] theorem g_zStuplelist {ys : List D} {k : List D → Prop} : gets (zipF true true false [.tuple xs, .list ys]) k = (xs.length = ys.length ∧ k (pairL xs ys)) := by unfold zipF; simp only [Option.bind_some, seqK_tuple, seqK_list]; by_cases h : xs.length = ys.length <;> simp [h]
@[simp↓] theorem g_zNtupletuple {ys : List D} {k : List D → Prop} : gets (zipF false true true [.tuple xs, .tuple ys]) k = k (pairL xs ys) := rfl
@[simp↓] theorem g_zStupletuple {ys : List D} {k : List D → Prop} : gets (zipF true true true [.tuple xs, .tuple ys]) k = (xs.length = ys.length ∧ k (pairL xs ys)) := by unfold zipF; simp only [Option.bind_some, seqK_tuple, seqK_tuple]; by_cases h : xs.length = ys.length <;> simp [h]
end
end Dk
set_option Elab.async false
set_option linter.all false
set_option maxRecDepth 100000
set_option maxHeartbeats 2000000
/-! Du: loops and comprehensions over data by an invariant. -/
namespace Dk
open PySem PySem.Spec PyProof.Rows L2
variable {S : Type} [StK S]
theorem forW_inv {g : (GW S)} {b : (DS S)} {E : (DE S)} {items : List D} (J : Nat → (En S) → Prop)
    (step : ∀ (i : Nat) (d : D) (ρ : (En S)), items[i]? = some d → J i ρ → ∀ N : (En S) → Prop, (∀ ρ', J (i + 1) ρ' → N ρ') → g d ρ fun ρ1 => b { nx := N, rt := E.rt, bk := E.nx, ct := N } ρ1)
    (fin : ∀ ρ, J items.length ρ → E.nx ρ) {ρ : (En S)} (h0 : J 0 ρ) : forW g b E items ρ := by
  have key : ∀ (n i : Nat) (ρ : (En S)), i + n = items.length → J i ρ → forW g b E (items.drop i) ρ := by
    intro n
    induction n with
    | zero =>
      intro i ρ e h
      rw [List.drop_eq_nil_of_le (by omega)]
      exact fin ρ (by rw [← show i = items.length by omega]; exact h)
    | succ n ih =>
      intro i ρ e h
      have hi : i < items.length := by omega
      rw [List.drop_eq_getElem_cons hi]
      exact step i items[i] ρ (List.getElem?_eq_getElem hi) h _ fun ρ' h' => ih (i + 1) ρ' (by omega) h'
  exact key items.length 0 ρ (by omega) h0
theorem lcW_inv {c : Sc} {items : List D} {g : (GW S)} {tt : (BW S)} {te : (OW S)} {vs : List Nat} {Q : List D → (En S) → Prop} (J : Nat → List D → (En S) → Prop)
    (its : ∀ i acc ρ, J i acc ρ → c.items ρ = some items)
    (step : ∀ (i : Nat) (d : D) (acc : List D) (ρ : (En S)), items[i]? = some d → J i acc ρ → ∀ N : List D → (En S) → Prop, (∀ acc' ρ', J (i + 1) acc' ρ' → N acc' ρ') →
      g d ρ fun ρ1 => tt ρ1 fun b ρ2 => if b = true then te ρ2 fun k ρ3 => gets k.valD fun y => N (acc ++ [y]) ⟨wipeD ρ3.sl vs, ρ3.pn⟩ else N acc ⟨wipeD ρ2.sl vs, ρ2.pn⟩)
    (fin : ∀ acc ρ, J items.length acc ρ → Q acc ρ) {ρ : (En S)} (h0 : J 0 [] ρ) : lcW c items g tt te vs Q items [] ρ := by
  have key : ∀ (n i : Nat) (acc : List D) (ρ : (En S)), i + n = items.length → J i acc ρ → lcW c items g tt te vs Q (items.drop i) acc ρ := by
    intro n
    induction n with
    | zero =>
      intro i acc ρ e h
      rw [List.drop_eq_nil_of_le (by omega)]
      exact ⟨its _ _ _ h, fin acc ρ (by rw [← show i = items.length by omega]; exact h)⟩
    | succ n ih =>
      intro i acc ρ e h
      have hi : i < items.length := by omega
      rw [List.drop_eq_getElem_cons hi]
      exact ⟨its _ _ _ h, step i items[i] acc ρ (List.getElem?_eq_getElem hi) h (fun acc ρ => lcW c items g tt te vs Q (items.drop (i + 1)) acc ρ) fun acc' ρ' h' => ih (i + 1) acc' ρ' (by omega) h'⟩
  exact key items.length 0 [] ρ (by omega) h0
/-- each item gives one: its relation -/
inductive All2 (R : D → D → Prop) : List D → List D → Prop
  | nil : All2 R [] []
  | cons {x y : D} {xs ys : List D} : R x y → All2 R xs ys → All2 R (x :: xs) (y :: ys)
theorem All2.snoc {R : D → D → Prop} {x y : D} : ∀ {xs ys : List D}, All2 R xs ys → R x y → All2 R (xs ++ [x]) (ys ++ [y])
  | _, _, .nil, h => .cons h .nil
  | _, _, .cons a r, h => .cons a (r.snoc h)
theorem All2.len {R : D → D → Prop} : ∀ {xs ys : List D}, All2 R xs ys → xs.length = ys.length
  | _, _, .nil => rfl
  | _, _, .cons _ r => by rw [List.length_cons, List.length_cons, r.len]
theorem take_snoc {xs : List D} {i : Nat} {d : D} (h : xs[i]? = some d) : xs.take (i + 1) = xs.take i ++ [d] := by
  obtain ⟨hi, e⟩ := List.getElem?_eq_some_iff.mp h
  rw [List.take_succ_eq_append_getElem hi, e]
theorem cut0 (ds : List D) (n : Nat) : cutD ds none (some (n : Int)) = ds.take n := by
  unfold cutD
  rw [show HT.sIx ds.length 0 none = 0 from rfl, HT.sIx_nat]
  simp
theorem cutN (ds : List D) (m n : Nat) : cutD ds (some (m : Int)) (some (n : Int)) = (ds.drop (min m ds.length)).take (min n ds.length - min m ds.length) := by
  unfold cutD
  rw [HT.sIx_nat, HT.sIx_nat]
end Dk
set_option Elab.async false
set_option linter.all false
set_option maxRecDepth 100000
set_option maxHeartbeats 2000000
/-! Dw: how long a datum shows; plain data. -/
namespace Dk
open PySem PySem.Spec PyProof.Rows L2
mutual
def wgt : D → Nat
  | .none => PyData.none.shown.length
  | .bool b => (PyData.bool b).shown.length
  | .int i => (PyData.int i).shown.length
  | .str x => (PyData.str x).shown.length
  | .list ds => wgts ds + 3
  | .tuple ds => wgts ds + 3
  | .dict kvs => (PyData.dict kvs).shown.length
def wgts : List D → Nat
  | [] => 0
  | d :: ds => wgt d + 2 + wgts ds
end
theorem wgts_nil : wgts [] = 0 := rfl
theorem wgts_cons {d : D} {ds : List D} : wgts (d :: ds) = wgt d + 2 + wgts ds := by rw [wgts]
theorem wgt_tuple {ds : List D} : wgt (.tuple ds) = wgts ds + 3 := by rw [wgt]
theorem wgt_list {ds : List D} : wgt (.list ds) = wgts ds + 3 := by rw [wgt]
theorem wgts_append : ∀ {ds es : List D}, wgts (ds ++ es) = wgts ds + wgts es
  | [], es => by simp [wgts_nil]
  | d :: ds, es => by rw [List.cons_append, wgts_cons, wgts_cons, wgts_append]; omega
theorem wgts_mem : ∀ {ds : List D} {d : D}, d ∈ ds → wgt d + 2 ≤ wgts ds
  | e :: ds, d, h => by
    rw [wgts_cons]
    rcases List.mem_cons.mp h with rfl | h
    · omega
    · have := wgts_mem h; omega
theorem wgts_take {ds : List D} (n : Nat) : wgts (ds.take n) + wgts (ds.drop n) = wgts ds := by
  rw [← wgts_append, List.take_append_drop]
theorem wgts_cut {ds : List D} {l h : Option Int} : wgts (cutD ds l h) ≤ wgts ds := by
  unfold cutD
  have h1 := wgts_take (ds := ds.drop (HT.sIx ds.length 0 l)) (HT.sIx ds.length ds.length h - HT.sIx ds.length 0 l)
  have h2 := wgts_take (ds := ds) (HT.sIx ds.length 0 l)
  omega
theorem wgts_reverse : ∀ {ds : List D}, wgts ds.reverse = wgts ds
  | [] => rfl
  | d :: ds => by rw [List.reverse_cons, wgts_append, wgts_reverse, wgts_cons, wgts_cons, wgts_nil]; omega
mutual
theorem shown_le : ∀ d : D, d.shown.length ≤ wgt d
  | .none => by rw [wgt]; exact Nat.le_refl _
  | .bool b => by rw [wgt]; exact Nat.le_refl _
  | .int i => by rw [wgt]; exact Nat.le_refl _
  | .str x => by rw [wgt]; exact Nat.le_refl _
  | .list ds => by
    rw [wgt_list]
    have h := listText_len_le (PyData.shownAll ds)
    have h2 := shownAll_le ds
    show (listText (PyData.shownAll ds)).length ≤ _
    omega
  | .tuple ds => by
    rw [wgt_tuple]
    have h := tupleText_len_le (PyData.shownAll ds)
    have h2 := shownAll_le ds
    show (tupleText (PyData.shownAll ds)).length ≤ _
    omega
  | .dict kvs => by rw [wgt]; exact Nat.le_refl _
theorem shownAll_le : ∀ ds : List D, ((PyData.shownAll ds).map (·.length)).sum + 2 * (PyData.shownAll ds).length ≤ wgts ds
  | [] => by simp [PyData.shownAll]
  | d :: ds => by
    rw [wgts_cons]
    have h1 := shown_le d
    have h2 := shownAll_le ds
    simp only [PyData.shownAll, List.map_cons, List.sum_cons, List.length_cons]
    omega
end
/-! ### plain data: no list, no dict -/
mutual
def pl : D → Bool
  | .none => true
  | .bool _ => true
  | .int i => decide (i.natAbs.log2 < 1920)
  | .str x => PyData.strOk x
  | .list _ => false
  | .tuple ds => plA ds
  | .dict _ => false
def plA : List D → Bool
  | [] => true
  | d :: ds => pl d && plA ds
end
theorem pl_tuple {ds : List D} : pl (.tuple ds) = plA ds := by rw [pl]
theorem plA_iff : ∀ {ds : List D}, plA ds = true ↔ ∀ d ∈ ds, pl d = true
  | [] => by simp [plA]
  | d :: ds => by
    rw [plA, Bool.and_eq_true, plA_iff]
    simp
theorem pl_int {i : Int} (h : i.natAbs < 1267650600228229401496703205376) : pl (.int i) = true := by
  rw [pl, decide_eq_true_eq]
  by_cases h0 : i.natAbs = 0
  · rw [h0]; decide
  · have : i.natAbs.log2 < 101 := (Nat.log2_lt h0).mpr (Nat.lt_of_lt_of_le h (by decide))
    omega
mutual
theorem pl_all : ∀ {d : D}, pl d = true → d.showable = true ∧ noList d = true ∧ d.hasDict = false ∧ d.canLay0 = true
  | .none, _ => ⟨rfl, rfl, rfl, rfl⟩
  | .bool b, _ => ⟨rfl, rfl, rfl, rfl⟩
  | .int i, h => ⟨by rw [pl] at h; exact h, rfl, rfl, rfl⟩
  | .str x, h => ⟨rfl, rfl, rfl, by rw [pl] at h; exact h⟩
  | .list ds, h => by rw [pl] at h; cases h
  | .tuple ds, h => by
    rw [pl_tuple] at h
    obtain ⟨h1, h2, h3, h4⟩ := plA_all h
    exact ⟨by rw [PyData.showable]; exact h1, by rw [noList]; exact h2, by rw [PyData.hasDict]; exact h3, by rw [PyData.canLay0]; exact h4⟩
  | .dict kvs, h => by rw [pl] at h; cases h
theorem plA_all : ∀ {ds : List D}, plA ds = true → PyData.showableAll ds = true ∧ noLists ds = true ∧ PyData.hasDictAll ds = false ∧ PyData.canLayAll0 ds = true
  | [], _ => ⟨rfl, rfl, rfl, rfl⟩
  | d :: ds, h => by
    rw [plA, Bool.and_eq_true] at h
    obtain ⟨h1, h2, h3, h4⟩ := pl_all h.1
    obtain ⟨g1, g2, g3, g4⟩ := plA_all h.2
    exact ⟨by rw [PyData.showableAll, h1, g1]; rfl, by rw [noLists, h2, g2]; rfl, by rw [PyData.hasDictAll, h3, g3]; rfl, by rw [PyData.canLayAll0, h4, g4]; rfl⟩
end
theorem depthAll_le : ∀ {ds : List D} {h : Nat}, PyData.depthAll ds ≤ h ↔ ∀ d ∈ ds, d.depth ≤ h
  | [], h => by simp [PyData.depthAll]
  | d :: ds, h => by
    rw [PyData.depthAll, Nat.max_le, depthAll_le]
    simp
theorem depth_tuple {ds : List D} : (PyData.tuple ds).depth = PyData.depthAll ds + 1 := by rw [PyData.depth]
theorem depth_list {ds : List D} : (PyData.list ds).depth = PyData.depthAll ds + 1 := by rw [PyData.depth]
theorem depth_mem {ds : List D} {d : D} (h : d ∈ ds) : d.depth ≤ PyData.depthAll ds := depthAll_le.mp (Nat.le_refl _) d h
/-- what may be shown, its weight and depth -/
structure Vw (W h : Nat) (d : D) : Prop where
  sh : d.showable = true
  w : wgt d ≤ W
  dp : d.depth ≤ h
  ld : noList d = true ∨ d.hasDict = false
def vw (W h : Nat) (d : D) : Bool := d.showable && decide (wgt d ≤ W) && decide (d.depth ≤ h) && (noList d || !d.hasDict)
theorem Vw.of {W h : Nat} {d : D} (c : vw W h d = true) : Vw W h d := by
  simp only [vw, Bool.and_eq_true, decide_eq_true_eq, Bool.or_eq_true, Bool.not_eq_true'] at c
  exact ⟨c.1.1.1, c.1.1.2, c.1.2, c.2⟩
theorem Vw.mono {W h W' h' : Nat} {d : D} (c : Vw W h d) (hw : W ≤ W') (hh : h ≤ h') : Vw W' h' d := ⟨c.sh, Nat.le_trans c.w hw, Nat.le_trans c.dp hh, c.ld⟩
theorem Vw.ofPl {W h : Nat} {d : D} (p : Dk.pl d = true) (hw : wgt d ≤ W) (hh : d.depth ≤ h) : Vw W h d := let ⟨h1, h2, _, _⟩ := pl_all p; ⟨h1, hw, hh, .inl h2⟩
theorem showA_iff : ∀ {ds : List D}, PyData.showableAll ds = true ↔ ∀ d ∈ ds, d.showable = true
  | [] => by simp [PyData.showableAll]
  | d :: ds => by
    rw [PyData.showableAll, Bool.and_eq_true, showA_iff]
    simp
theorem noLists_iff : ∀ {ds : List D}, noLists ds = true ↔ ∀ d ∈ ds, noList d = true
  | [] => by simp [noLists]
  | d :: ds => by
    rw [noLists, Bool.and_eq_true, noLists_iff]
    simp
theorem hasDictAll_iff : ∀ {ds : List D}, PyData.hasDictAll ds = false ↔ ∀ d ∈ ds, d.hasDict = false
  | [] => by simp [PyData.hasDictAll]
  | d :: ds => by
    rw [PyData.hasDictAll, Bool.or_eq_false_iff, hasDictAll_iff]
    simp
/-- plain data around one that may be shown -/
theorem Vw.around {W h : Nat} {xs ys : List D} {d : D} (c : Vw W h d) (hx : plA xs = true) (hy : plA ys = true) (dx : PyData.depthAll xs ≤ h) (dy : PyData.depthAll ys ≤ h) : Vw (wgts xs + (W + 2) + wgts ys + 3) (h + 1) (.tuple (xs ++ d :: ys)) := by
  have ax := plA_iff.mp hx
  have ay := plA_iff.mp hy
  have mem : ∀ {e : D}, e ∈ xs ++ d :: ys → pl e = true ∨ e = d := fun {e} he => by
    rcases List.mem_append.mp he with he | he
    · exact .inl (ax e he)
    · rcases List.mem_cons.mp he with he | he
      · exact .inr he
      · exact .inl (ay e he)
  refine ⟨?_, ?_, ?_, ?_⟩
  · rw [PyData.showable, showA_iff]
    intro e he
    rcases mem he with p | rfl
    · exact (pl_all p).1
    · exact c.sh
  · rw [wgt_tuple, wgts_append, wgts_cons]
    have := c.w
    omega
  · rw [depth_tuple]
    have : PyData.depthAll (xs ++ d :: ys) ≤ h := depthAll_le.mpr fun e he => by
      rcases List.mem_append.mp he with he | he
      · exact depthAll_le.mp dx e he
      · rcases List.mem_cons.mp he with rfl | he
        · exact c.dp
        · exact depthAll_le.mp dy e he
    omega
  · rcases c.ld with l | l
    · refine .inl ?_
      rw [noList, noLists_iff]
      intro e he
      rcases mem he with p | rfl
      · exact (pl_all p).2.1
      · exact l
    · refine .inr ?_
      rw [PyData.hasDict, hasDictAll_iff]
      intro e he
      rcases mem he with p | rfl
      · exact (pl_all p).2.2.1
      · exact l
theorem Vw.repr {W h : Nat} {d : D} (c : Vw W h d) (hw : W ≤ 16777216) (hh : h ≤ 100) : reprOk d := ⟨c.sh, Nat.le_trans (shown_le d) (Nat.le_trans c.w (by rw [sizeLine_eq]; exact hw)), Nat.le_trans c.dp hh, c.ld⟩
/-- a list of plain data -/
theorem Vw.list {ds : List D} (p : plA ds = true) : Vw (wgt (.list ds)) (PyData.list ds).depth (.list ds) := by
  obtain ⟨h1, _, h3, _⟩ := plA_all p
  exact ⟨by rw [PyData.showable]; exact h1, Nat.le_refl _, Nat.le_refl _, .inr (by rw [PyData.hasDict]; exact h3)⟩
theorem pl_shaped {d : D} (p : pl d = true) (h : d.depth ≤ 64) : SeqAt.shaped d = true := by
  unfold SeqAt.shaped
  rw [(pl_all p).2.2.2, decide_eq_true h]
  rfl
theorem pl_eqOk {d e : D} (p : pl d = true) (h : d.depth ≤ 64) (q : pl e = true) (g : e.depth ≤ 64) : eqOk d e = true := by
  unfold eqOk
  rw [pl_shaped p h, pl_shaped q g]
  simp
end Dk
set_option Elab.async false
set_option linter.all false
set_option maxRecDepth 100000
set_option maxHeartbeats 2000000
/-! Dv: what the laws' texts share: the pen's budget, promises of the defs that many laws draw with, lemmas. -/
namespace Dk
open PySem PySem.Spec PyProof.Rows L2
def Bud (p : Pen) (b : Nat) : Prop := 0 ≤ p.at_ ∧ p.at_ + b ≤ 536870912
theorem cmul {i j : Int} (hi : i.natAbs < 2 ^ 1000) (hj : j.natAbs < 2 ^ 1000) : CMulW i j := by
  unfold CMulW
  have f : ∀ n : Nat, n < 2 ^ 1000 → n.log2 < 1000 := fun n h => by
    by_cases h0 : n = 0
    · subst h0; decide
    · exact (Nat.log2_lt h0).mpr h
  have := f _ hi
  have := f _ hj
  omega
theorem lt_pow {i : Int} (h0 : 0 ≤ i) (h : i < 1267650600228229401496703205376) : i.natAbs < 2 ^ 1000 := by
  refine Nat.lt_of_lt_of_le (m := 2 ^ 100) ?_ (Nat.pow_le_pow_right (by decide) (by decide))
  have e : (2 : Nat) ^ 100 = 1267650600228229401496703205376 := by decide
  omega
theorem gets_at {xs : List D} {i : Int} {k : D → Prop} (h0 : 0 ≤ i) (h1 : i < xs.length) (h : ∀ d ∈ xs, k d) : gets (atI xs i) k := by
  rw [atI_of h0, List.getElem?_eq_getElem (by omega)]
  exact h _ (List.getElem_mem _)
def spSpread : DSp := fun as pn P => ∃ c a : Int, as = [.val (.int c), .val (.int a)] ∧ 0 ≤ a ∧ a < 536870912 ∧ ∀ r, P (.int r) pn
def isP : D → Bool
  | .int p => decide (0 < p) && decide (p < 2147483648)
  | _ => false
theorem isP_int {d : D} (h : isP d = true) : ∃ p : Int, d = .int p ∧ 0 < p ∧ p < 2147483648 := by
  cases d with
  | int p => simp [isP] at h; exact ⟨p, rfl, h.1, h.2⟩
  | _ => cases h
theorem gets_pr {xs : List D} {i : Int} {k : D → Prop} (hx : xs.all isP = true) (h0 : 0 ≤ i) (h1 : i < xs.length) (h : ∀ p : Int, 0 < p → p < 2147483648 → k (.int p)) : gets (atI xs i) k :=
  gets_at h0 h1 fun d hd => by
    obtain ⟨p, rfl, h2, h3⟩ := isP_int (List.all_eq_true.mp hx d hd)
    exact h p h2 h3
theorem mul_bd {x y a b : Int} (h0 : 0 ≤ x) (h1 : x ≤ a) (h2 : 0 ≤ y) (h3 : y ≤ b) : 0 ≤ x * y ∧ x * y ≤ a * b :=
  ⟨Int.mul_nonneg h0 h2, Int.mul_le_mul h1 h3 h2 (by omega)⟩
theorem pow_bd {x : Int} {n : Int} (hn : 0 ≤ n) (hn2 : n ≤ 1000000) (h0 : 0 ≤ x) (h1 : x < 18446744073709551616) : CPow x n := by
  refine ⟨hn, hn2, ?_⟩
  have e : (2 : Nat) ^ 64 = 18446744073709551616 := by decide
  omega
theorem cm {x y : Int} (h0 : 0 ≤ x) (h1 : x < 1267650600228229401496703205376) (h2 : 0 ≤ y) (h3 : y < 1267650600228229401496703205376) : CMulW x y := cmul (lt_pow h0 h1) (lt_pow h2 h3)
def spTake : DSp := fun as pn P => ∃ (p : Pen) (n : Int) (b : Nat), as = [.pen, .val (.int n)] ∧ pn = some p ∧ Bud p (b + 1) ∧ 0 < n ∧ n < 1267650600228229401496703205376 ∧ ∀ i p', 0 ≤ i → i < n → Bud p' b → P (.int i) (some p')
theorem cdiv {x y : Int} (h0 : 0 < y) (h : y < 1267650600228229401496703205376) : CDivW x y := by
  refine ⟨h0, ?_⟩
  have := (Nat.log2_lt (n := y.natAbs) (k := 1000) (by omega)).mpr (lt_pow (by omega) h)
  omega
def seqA : Dk.Arg → Option (List D)
  | .val (.list ds) => some ds
  | .val (.tuple ds) => some ds
  | .bor ds => some ds
  | _ => none
def spOneOf : DSp := fun as pn P => ∃ (p : Pen) (a : Dk.Arg) (ds : List D) (b : Nat), as = [.pen, a] ∧ seqA a = some ds ∧ pn = some p ∧ Bud p (b + 1) ∧ ds ≠ [] ∧ ds.length ≤ 16777216 ∧ ∀ d ∈ ds, ∀ p', Bud p' b → P d (some p')
def spOpen : DSp := fun as pn P => ∃ ns : List Int, as = [.scr ns] ∧ pn = none ∧ ∀ cells, P (penL cells) none
theorem gets_ixN {n : Nat} {i : Int} {k : Nat → Prop} (h0 : 0 ≤ i) (h1 : i < n) (h : k i.toNat) : gets (ixN n i) k := by
  unfold ixN
  rw [if_pos h0, if_pos h1]
  exact h
def oddL : List D := [.none, .bool true, .bool false, .int 0, .int 1, .int (-1), .int 2, .int 3, .int 20, .int 24, .int 1000, .int 1001, .int 1000000, .int 1000001, .int 1000000000000000000000000000000, .str "", .str "a", .tuple [], .list [], .dict []] ++
  [.tuple [.int 0], .tuple [.int 0, .tuple []], .tuple [.int 1, .int 0], .tuple [.tuple [.int 0], .tuple []], .list [.int 0], .tuple [.int 0, .int 0, .int 0], .tuple [.tuple [.int 1], .tuple [.int 0]], .str "kept", .str "mixed"]
theorem odd_vw : ∀ d ∈ oddL, Vw 100 5 d := fun d h => Vw.of (List.all_eq_true.mp (show (oddL.all (vw 100 5)) = true by decide +kernel) d h)
def spOdd : DSp := fun as pn P => ∃ (p : Pen) (b : Nat), as = [.pen] ∧ pn = some p ∧ Bud p (b + 1) ∧ ∀ d p', Vw 100 5 d → Bud p' b → P d (some p')
def spSameB : DSp := fun as pn P => ∃ b : Bool, as = [.val (.bool b), .val (.bool b)] ∧ P (.bool true) pn
def spSameN : Nat → DSp
  | 0 => fun _ _ _ => False
  | _ + 1 => spSameB
def isInt (v : D) (lo hi : Int) : Bool := match v with
  | .int i => decide (lo ≤ i) && decide (i ≤ hi)
  | _ => false
def spIsInt : DSp := fun as pn P => ∃ (v : D) (lo hi : Int), as = [.val v, .val (.int lo), .val (.int hi)] ∧ P (.bool (isInt v lo hi)) pn
abbrev Alt := List Int × List Nat
abbrev Memo := List (List Alt)
def needsL (ns : List Nat) : List D := ns.map fun (n : Nat) => PyData.int (n : Int)
def altD (a : Alt) : D := .tuple [.tuple (a.1.map .int), .tuple (needsL a.2)]
def nodeD (n : List Alt) : D := .tuple (n.map altD)
def memoD (m : Memo) : D := .tuple (m.map nodeD)
def Good (m : Memo) : Prop := ∀ (i : Nat) (n : List Alt), m[i]? = some n → n ≠ [] ∧ n.length ≤ 1000 ∧ ∀ a : Alt, a ∈ n → a.2.length ≤ 2 ∧ ∀ x ∈ a.2, x < i
def isPlan (m : Memo) : Nat → Nat → D → Bool
  | f + 1, node, .tuple [.int k, .tuple parts] => match m[node]? with
    | some n => if 0 ≤ k ∧ k < n.length then (match n[k.toNat]? with
      | some a => decide (parts.length = a.2.length) && (List.zipWith (isPlan m f) a.2 parts).all id
      | none => false) else false
    | none => false
  | _, _, _ => false
def spIsPlan (f : Nat) : DSp := fun as pn P => ∃ (m : Memo) (node : Nat) (v : D), as = [.val (memoD m), .val (.int node), .val v] ∧ Good m ∧ node < f ∧ node < m.length ∧ P (.bool (isPlan m f node v)) pn
theorem gets_nat {xs : List D} {n : Nat} {d : D} {k : D → Prop} (h : xs[n]? = some d) (q : k d) : gets (atI xs (n : Int)) k := by rw [Dk.atI_nat, h]; exact q
theorem gets_int {xs : List D} {i : Int} {d : D} {k : D → Prop} (h0 : 0 ≤ i) (h : xs[i.toNat]? = some d) (q : k d) : gets (atI xs i) k := by rw [Dk.atI_of h0, h]; exact q
@[simp] theorem eqOk_int {i j : Int} : eqOk (.int i) (.int j) = true := by
  unfold eqOk
  rw [show SeqAt.shaped (.int i) = true from rfl, show SeqAt.shaped (.int j) = true from rfl]
  rfl
@[simp] theorem eqv_int {i j : Int} : PyData.eqv (.int i) (.int j) = (i == j) := rfl
theorem bls_map : ∀ bs : List Bool, bls? (bs.map .bool) = some bs
  | [] => rfl
  | b :: bs => by rw [List.map_cons, bls?, bls_map bs]; rfl
theorem gets_bls {bs : List Bool} {k : List Bool → Prop} (h : k bs) : gets (bls? (bs.map .bool)) k := by rw [bls_map]; exact h
theorem any_false : ∀ bs : List Bool, anyEq (.bool false) (bs.map .bool) = !bs.all id
  | [] => rfl
  | b :: bs => by
    have := any_false bs
    unfold anyEq at this ⊢
    rw [List.map_cons, List.any_cons, List.all_cons, this]
    cases b <;> rfl
theorem flat_bools (bs : List Bool) : (bs.map PyData.bool).all flatD = true := by
  rw [List.all_eq_true]
  intro d hd
  obtain ⟨b, _, rfl⟩ := List.mem_map.mp hd
  rfl
theorem gets_notin {bs : List Bool} {k : Rs → Prop} (h : k (.val (.bool (bs.all id)))) : gets (inD true (.bool false) (.list (bs.map .bool))) k := by
  have e : inD true (.bool false) (.list (bs.map .bool)) = some (bl (bs.all id)) := by
    show (if flatD (.bool false) = true ∧ (bs.map PyData.bool).all flatD = true then some (bl (!anyEq (.bool false) (bs.map .bool))) else _) = _
    rw [if_pos ⟨rfl, flat_bools bs⟩, any_false, Bool.not_not]
  rw [e]
  exact h
theorem atR {xs : List D} {n : Nat} {d : D} (h : xs[n]? = some d) (k : D → Prop) : gets (atI xs (n : Int)) k = k d := by rw [Dk.atI_nat, h]; rfl
theorem atRi {xs : List D} {i : Int} {d : D} (h0 : 0 ≤ i) (h : xs[i.toNat]? = some d) (k : D → Prop) : gets (atI xs i) k = k d := by rw [Dk.atI_of h0, h]; rfl
theorem memo_at {m : Memo} {node : Nat} {n : List Alt} (hn : m[node]? = some n) : (m.map nodeD)[node]? = some (nodeD n) := by rw [List.getElem?_map, hn]; rfl
theorem isInt_some {v : D} {lo hi : Int} (h : isInt v lo hi = true) : ∃ k, v = .int k ∧ lo ≤ k ∧ k ≤ hi := by
  cases v with
  | int k => simp [isInt] at h; exact ⟨k, rfl, h⟩
  | _ => cases h
theorem isiT {xs : List D} : isi .tuple (.tuple xs) = true := rfl
def spAmounts : DSp := fun as pn P => ∃ (p : Pen) (size : Nat) (high : Int) (b : Nat), as = [.pen, .val (.int size), .val (.int high)] ∧ size ≤ 1000 ∧ 0 ≤ high ∧ high ≤ 1000000 ∧ pn = some p ∧ Bud p (b + 2 * size) ∧
  ∀ (ns : List Int) p', ns.length = size → (∀ x ∈ ns, 0 ≤ x ∧ x ≤ max 10 high) → Bud p' b → P (.tuple (ns.map .int)) (some p')
/-! ### plain data without texts, ints below 10 ** 200 -/
def bigN : Nat := 10 ^ 200
theorem bigN_lt : bigN < 10 ^ 201 := by decide +kernel
theorem pl_big {i : Int} (h : i.natAbs < 10 ^ 201) : pl (.int i) = true := by
  rw [pl, decide_eq_true_eq]
  by_cases h0 : i.natAbs = 0
  · rw [h0]; decide
  · have : i.natAbs.log2 < 700 := (Nat.log2_lt h0).mpr (Nat.lt_of_lt_of_le h (by decide +kernel))
    omega
theorem wgt_int {i : Int} {k : Nat} (hk : 0 < k) (h : i.natAbs < 10 ^ k) : wgt (.int i) ≤ k + 1 := by
  rw [wgt]
  have e := int_text_length_le10 hk h
  show (Str.ofString (toString i)).length ≤ k + 1
  rw [PyProof.Rows.ofString_length]; exact e
mutual
def sm : D → Bool
  | .none => true
  | .bool _ => true
  | .int i => decide (i.natAbs < bigN)
  | .str _ => false
  | .list _ => false
  | .tuple ds => decide (ds.length ≤ 900) && smA ds
  | .dict _ => false
def smA : List D → Bool
  | [] => true
  | d :: ds => sm d && smA ds
end
theorem sm_tuple {ds : List D} : sm (.tuple ds) = (decide (ds.length ≤ 900) && smA ds) := by rw [sm]
theorem sm_tup {ds : List D} : sm (.tuple ds) = true ↔ ds.length ≤ 900 ∧ smA ds = true := by rw [sm_tuple, Bool.and_eq_true, decide_eq_true_eq]
theorem smA_iff : ∀ {ds : List D}, smA ds = true ↔ ∀ d ∈ ds, sm d = true
  | [] => by simp [smA]
  | d :: ds => by
    rw [smA, Bool.and_eq_true, smA_iff]
    simp
mutual
theorem sm_pl : ∀ {d : D}, sm d = true → pl d = true
  | .none, _ => rfl
  | .bool b, _ => rfl
  | .int i, h => by
    rw [sm, decide_eq_true_eq] at h
    exact pl_big (Nat.lt_trans h bigN_lt)
  | .str x, h => by rw [sm] at h; cases h
  | .list ds, h => by rw [sm] at h; cases h
  | .tuple ds, h => by rw [sm_tup] at h; rw [pl_tuple]; exact smA_pl h.2
  | .dict kvs, h => by rw [sm] at h; cases h
theorem smA_pl : ∀ {ds : List D}, smA ds = true → plA ds = true
  | [], _ => rfl
  | d :: ds, h => by
    rw [smA, Bool.and_eq_true] at h
    rw [plA, sm_pl h.1, smA_pl h.2]
    rfl
end
theorem wgt_small {i : Int} (h : i.natAbs < 1000000000000) : wgt (.int i) ≤ 13 := by
  rw [wgt]
  exact PyData.shown_int_le h
theorem big {x : Int} (h0 : 0 ≤ x) (h : x < 1000000000000000000000000000000000000000000000000000000000000) : x.natAbs < 2 ^ 1000 := by
  refine Nat.lt_of_lt_of_le (m := 2 ^ 200) ?_ (Nat.pow_le_pow_right (by decide) (by decide))
  have e : (2 : Nat) ^ 200 = 1606938044258990275541962092341162602522202993782792835301376 := by decide
  omega
theorem ints_map : ∀ ns : List Int, ints? (ns.map .int) = some ns
  | [] => rfl
  | n :: ns => by rw [List.map_cons, ints?, ints_map ns]; rfl
theorem gets_ints {ns : List Int} {k : List Int → Prop} (h : k ns) : gets (ints? (ns.map .int)) k := by rw [ints_map]; exact h
theorem gets_maxI {ns : List Int} {k : Int → Prop} (hn : ns ≠ []) (h : ∀ r, k r) : gets (maxI ns) k := by
  cases ns with
  | nil => exact absurd rfl hn
  | cons n ns => exact h _
theorem cutTo {xs : List D} {k : Int} (h0 : 0 ≤ k) : Dk.cutD xs none (some k) = xs.take k.toNat := by
  have := cut0 xs k.toNat
  rwa [Int.toNat_of_nonneg h0] at this
theorem cutFrom {xs : List D} {k : Int} (h0 : 0 ≤ k) : Dk.cutD xs (some k) none = xs.drop k.toNat := by
  unfold Dk.cutD
  have e : HT.sIx xs.length 0 (some k) = min k.toNat xs.length := by
    have := HT.sIx_nat xs.length 0 k.toNat
    rwa [Int.toNat_of_nonneg h0] at this
  rw [e, HT.sIx_none]
  by_cases h : k.toNat ≤ xs.length
  · rw [Nat.min_eq_left h, List.take_of_length_le (by rw [List.length_drop]; omega)]
  · rw [Nat.min_eq_right (by omega), List.drop_eq_nil_of_le (Nat.le_refl _), List.drop_eq_nil_of_le (by omega)]
    simp
theorem len_wgts : ∀ {xs : List D}, 2 * xs.length ≤ wgts xs
  | [] => by simp [wgts_nil]
  | x :: xs => by have := len_wgts (xs := xs); rw [wgts_cons, List.length_cons]; omega
theorem smA_take {xs : List D} (h : smA xs = true) (n : Nat) : smA (xs.take n) = true := smA_iff.mpr fun d hd => smA_iff.mp h d (List.mem_of_mem_take hd)
theorem smA_drop {xs : List D} (h : smA xs = true) (n : Nat) : smA (xs.drop n) = true := smA_iff.mpr fun d hd => smA_iff.mp h d (List.mem_of_mem_drop hd)
theorem smA_app {xs ys : List D} (h : smA xs = true) (g : smA ys = true) : smA (xs ++ ys) = true := smA_iff.mpr fun d hd => by
  rcases List.mem_append.mp hd with hd | hd
  · exact smA_iff.mp h d hd
  · exact smA_iff.mp g d hd
theorem depthAll_of {xs ys : List D} (h : ∀ d ∈ xs, d ∈ ys) : PyData.depthAll xs ≤ PyData.depthAll ys := depthAll_le.mpr fun d hd => depth_mem (h d hd)
theorem bud_le {p : Pen} {b c : Nat} (h : Bud p c) (e : b ≤ c) : Bud p b := ⟨h.1, by have := h.2; omega⟩
theorem eqv_nil {xs : List D} : PyData.eqv (.tuple xs) (.tuple []) = xs.isEmpty := by cases xs <;> rfl
theorem vw_int {i : Int} {w h : Nat} (hi : i.natAbs < 10 ^ 201) (hw : 202 ≤ w) : Vw w h (.int i) := Vw.ofPl (pl_big hi) (Nat.le_trans (wgt_int (by decide) hi) hw) (Nat.zero_le _)
theorem vw_bool {b : Bool} {w h : Nat} (hw : 13 ≤ w) : Vw w h (.bool b) := Vw.ofPl rfl (Nat.le_trans (show wgt (.bool b) ≤ 5 by cases b <;> decide +kernel) (by omega)) (Nat.zero_le _)
theorem vw_self {v : D} (h : sm v = true) : Vw (wgt v + 500) (v.depth + 6) v := Vw.ofPl (sm_pl h) (by omega) (by omega)
theorem wgts_map {α : Type} {g : α → D} {c : Nat} : ∀ {xs : List α}, (∀ x ∈ xs, wgt (g x) ≤ c) → wgts (xs.map g) ≤ xs.length * (c + 2)
  | [], _ => by simp [wgts_nil]
  | x :: xs, h => by
    have h1 := h x (by simp)
    have h2 := wgts_map (xs := xs) fun y hy => h y (by simp [hy])
    rw [List.map_cons, wgts_cons, List.length_cons, Nat.succ_mul]
    omega
theorem plA_map {α : Type} {g : α → D} {xs : List α} (h : ∀ x ∈ xs, pl (g x) = true) : plA (xs.map g) = true := plA_iff.mpr fun d hd => by
  obtain ⟨x, hx, rfl⟩ := List.mem_map.mp hd
  exact h x hx
theorem depth_map {α : Type} {g : α → D} {c : Nat} {xs : List α} (h : ∀ x ∈ xs, (g x).depth ≤ c) : PyData.depthAll (xs.map g) ≤ c := depthAll_le.mpr fun d hd => by
  obtain ⟨x, hx, rfl⟩ := List.mem_map.mp hd
  exact h x hx
theorem vw_sub {xs ys : List D} (hx : smA xs = true) (h : ∀ d ∈ ys, d ∈ xs) (hw : wgts ys ≤ 2 * wgts xs + 400) : Vw (2 * wgt (.tuple xs) + 500) ((PyData.tuple xs).depth + 6) (.tuple ys) := by
  have hy : smA ys = true := smA_iff.mpr fun d hd => smA_iff.mp hx d (h d hd)
  refine Vw.ofPl (by rw [pl_tuple]; exact smA_pl hy) ?_ ?_
  · rw [wgt_tuple, wgt_tuple]; omega
  · rw [depth_tuple, depth_tuple]
    have := depthAll_of h
    omega
def spBent (f : Nat) : DSp := fun as pn P => ∃ (p : Pen) (v : D) (b : Nat), as = [.pen, .val v] ∧ sm v = true ∧ v.depth < f ∧ f ≤ 60 ∧ wgt v ≤ 1000000 ∧ pn = some p ∧ Bud p (b + 4 * f) ∧ ∀ d p', Vw (2 * wgt v + 500) (v.depth + 6) d → Bud p' b → P d (some p')
def spOff (f : Nat) : DSp := fun as pn P => ∃ (p : Pen) (v : D) (b : Nat), as = [.pen, .val v] ∧ sm v = true ∧ v.depth < f ∧ f ≤ 60 ∧ wgt v ≤ 1000000 ∧ pn = some p ∧ Bud p (b + f) ∧ ∀ d p', Vw (wgt v + 500) (v.depth + 6) d → Bud p' b → P d (some p')
theorem bigN_1 {i : Int} (h : i.natAbs < bigN) : (i + 1).natAbs < 10 ^ 201 ∧ (i - 1).natAbs < 10 ^ 201 ∧ i.natAbs < 10 ^ 201 := by
  have e : bigN + 1 ≤ 10 ^ 201 := by decide +kernel
  generalize (10 : Nat) ^ 201 = N at e ⊢
  omega
/-! plans that are drawn -/
def costP : Nat → Nat
  | 0 => 0
  | f + 1 => 1 + 2 * costP f
def wP : Nat → Nat
  | 0 => 0
  | f + 1 => 30 + 2 * wP f
structure PlanT (m : Memo) (f node : Nat) (d : D) : Prop where
  sh : ∃ (k : Int) (parts : List D), d = .tuple [.int k, .tuple parts]
  p : sm d = true
  w : wgt d ≤ wP f
  dp : d.depth ≤ 2 * f
  ip : isPlan m f node d = true
theorem planT_mk {m : Memo} {f node : Nat} {n : List Alt} {al : Alt} {k : Int} {acc : List D} (hn : m[node]? = some n) (hk : n[k.toNat]? = some al) (k0 : 0 ≤ k) (k1 : k < 1000) (hl : acc.length = al.2.length) (h2 : al.2.length ≤ 2)
    (ha : ∀ (j : Nat) nd d, al.2[j]? = some nd → acc[j]? = some d → PlanT m f nd d) : PlanT m (f + 1) node (.tuple [.int k, .tuple acc]) := by
  have hm : ∀ d ∈ acc, ∃ nd, PlanT m f nd d := fun d hd => by
    obtain ⟨j, hj, e⟩ := List.mem_iff_getElem.mp hd
    exact ⟨al.2[j], ha j _ d (List.getElem?_eq_getElem (by omega)) (by rw [List.getElem?_eq_getElem hj, e])⟩
  have hp : smA acc = true := smA_iff.mpr fun d hd => (hm d hd).elim fun _ h => h.p
  have hw : wgts acc ≤ 2 * (wP f + 2) := by
    match acc, hl, hm with
    | [], _, _ => simp [wgts_nil]
    | [a], _, hm => obtain ⟨_, h1⟩ := hm a (by simp); have := h1.w; rw [wgts_cons, wgts_nil]; omega
    | [a, b], _, hm => obtain ⟨_, h1⟩ := hm a (by simp); have h1 := h1.w; obtain ⟨_, h2⟩ := hm b (by simp); have h2 := h2.w; rw [wgts_cons, wgts_cons, wgts_nil]; omega
    | a :: b :: c :: r, hl, _ => simp at hl; omega
  have hd : PyData.depthAll acc ≤ 2 * f := depthAll_le.mpr fun d hd => (hm d hd).elim fun _ h => h.dp
  refine ⟨⟨k, acc, rfl⟩, ?_, ?_, ?_, ?_⟩
  · rw [sm_tup]
    refine ⟨by simp, ?_⟩
    have e1 : sm (.int k) = true := by
      rw [sm, decide_eq_true_eq]
      exact Nat.lt_of_lt_of_le (m := 1000) (by omega) (by decide +kernel)
    have e2 : sm (.tuple acc) = true := sm_tup.mpr ⟨by omega, hp⟩
    rw [smA, smA, smA, e1, e2]
    rfl
  · rw [wgt_tuple, wgts_cons, wgts_cons, wgts_nil, wgt_tuple]
    have := wgt_small (i := k) (by omega)
    simp only [wP]
    omega
  · rw [depth_tuple, PyData.depthAll, PyData.depthAll, PyData.depthAll, depth_tuple]
    simp only [PyData.depth]
    omega
  · simp only [isPlan, hn]
    have hlt := (List.getElem?_eq_some_iff.mp hk).1
    rw [if_pos ⟨k0, by omega⟩]
    simp only [hk]
    rw [Bool.and_eq_true, decide_eq_true_eq]
    refine ⟨hl, ?_⟩
    rw [List.all_eq_true]
    intro b hb
    obtain ⟨j, hj, e⟩ := List.mem_iff_getElem.mp hb
    rw [List.length_zipWith] at hj
    rw [List.getElem_zipWith] at e
    rw [← e]
    exact (ha j _ _ (List.getElem?_eq_getElem (by omega)) (List.getElem?_eq_getElem (by omega))).ip
def spDrawPlan (f : Nat) : DSp := fun as pn P => ∃ (p : Pen) (m : Memo) (node b : Nat), as = [.pen, .val (memoD m), .val (.int node)] ∧ Good m ∧ node < f ∧ node < m.length ∧ pn = some p ∧ Bud p (b + costP f) ∧ ∀ d p', PlanT m f node d → Bud p' b → P d (some p')
/-! ### comprehensions: each item gives one -/
theorem take_snocA {α : Type} {xs : List α} {i : Nat} {d : α} (h : xs[i]? = some d) : xs.take (i + 1) = xs.take i ++ [d] := by
  obtain ⟨hi, e⟩ := List.getElem?_eq_some_iff.mp h
  rw [List.take_succ_eq_append_getElem hi, e]
theorem lcW_map {S : Type} [StK S] {α : Type} {c : Sc} {items : List D} {g : (GW S)} {te : (OW S)} {vs : List Nat} {Q : List D → (En S) → Prop} {ρ0 : (En S)} {ts : List α} (e f : α → D) (hi : items = ts.map e) (hc : c.items ρ0 = some items)
    (step : ∀ t ∈ ts, ∀ N : D → (En S) → Prop, N (f t) ρ0 → g (e t) ρ0 fun ρ1 => te ρ1 fun k ρ3 => gets k.valD fun y => N y ⟨wipeD ρ3.sl vs, ρ3.pn⟩)
    (q : Q (ts.map f) ρ0) : lcW c items g dYes te vs Q items [] ρ0 := by
  refine lcW_inv (fun i acc ρ => ρ = ρ0 ∧ acc = (ts.take i).map f) ?_ ?_ ?_ ⟨rfl, rfl⟩
  · rintro i acc ρ ⟨rfl, _⟩
    exact hc
  · rintro i d acc ρ h ⟨rfl, rfl⟩ N hN
    rw [hi, List.getElem?_map] at h
    obtain ⟨t, h1, rfl⟩ := Option.map_eq_some_iff.mp h
    have := step t (List.mem_of_getElem? h1) (fun y ρ' => N ((ts.take i).map f ++ [y]) ρ') (hN _ _ ⟨rfl, by rw [take_snocA h1, List.map_append]; rfl⟩)
    exact this
  · rintro acc ρ ⟨rfl, rfl⟩
    rw [hi, List.length_map, List.take_length]
    exact q
/-- items drawn: each has R, each costs c draws at most -/
theorem rds_pen {sl : List Sl} {p q : Option Pen} : ∀ ks : List Tk, rds (⟨sl, p⟩ : En) ks = rds (⟨sl, q⟩ : En) ks
  | [] => rfl
  | k :: ks => by
    rw [rds_cons, rds_cons, rds_pen ks]
    cases k <;> rfl
theorem items_pen {c : Sc} {sl : List Sl} {p q : Option Pen} : c.items (⟨sl, p⟩ : En) = c.items (⟨sl, q⟩ : En) := by
  unfold Sc.items
  rw [rds_pen]
theorem lcW_draw {c : Sc} {items : List D} {g : GW} {te : OW} {vs : List Nat} {Q : List D → En → Prop} {sl : List Sl} {p : Pen} (R : D → Prop) (n b cst : Nat) (hn : items.length = n) (hc : c.items (⟨sl, none⟩ : En) = some items) (hb : Bud p (b + cst * n))
    (step : ∀ (i : Nat) (d : D), items[i]? = some d → ∀ (q : Pen) (b' : Nat), Bud q (b' + cst) → b ≤ b' → ∀ N : D → En → Prop, (∀ y q', R y → Bud q' b' → N y ⟨sl, some q'⟩) → g d ⟨sl, some q⟩ fun ρ1 => te ρ1 fun k ρ3 => gets k.valD fun y => N y ⟨wipeD ρ3.sl vs, ρ3.pn⟩)
    (fin : ∀ acc q, acc.length = n → (∀ d ∈ acc, R d) → Bud q b → Q acc ⟨sl, some q⟩) : lcW c items g dYes te vs Q items [] ⟨sl, some p⟩ := by
  refine lcW_inv (fun i acc ρ => ∃ q : Pen, ρ = ⟨sl, some q⟩ ∧ acc.length = i ∧ i ≤ n ∧ (∀ d ∈ acc, R d) ∧ Bud q (b + cst * (n - i))) ?_ ?_ ?_ ⟨p, rfl, rfl, Nat.zero_le _, by simp, hb⟩
  · rintro i acc ρ ⟨q, rfl, _⟩
    rw [← hc]
    exact items_pen
  · rintro i d acc ρ h ⟨q, rfl, hl, hin, hR, hq⟩ N hN
    have hlt : i < n := by rw [← hn]; exact (List.getElem?_eq_some_iff.mp h).1
    have e : b + cst * (n - i) = b + cst * (n - (i + 1)) + cst := by
      rw [show n - i = (n - (i + 1)) + 1 by omega, Nat.mul_succ]; omega
    have := step i d h q (b + cst * (n - (i + 1))) (by rw [← e]; exact hq) (by omega) (fun y ρ' => N (acc ++ [y]) ρ') (fun y q' hy hq' => hN _ _ ⟨q', rfl, by simp [hl], hlt, fun z hz => by
      rcases List.mem_append.mp hz with hz | hz
      · exact hR z hz
      · rw [List.mem_singleton.mp hz]; exact hy, hq'⟩)
    exact this
  · rintro acc ρ ⟨q, rfl, hl, _, hR, hq⟩
    rw [hn] at hl hq
    exact fin acc q hl hR (bud_le hq (by omega))
/-! ### tables over a memo, node by node -/
section
variable {α : Type} {g : List α → List Alt → α}
def dp (g : List α → List Alt → α) (m : Memo) : List α := m.foldl (fun acc n => acc ++ [g acc n]) []
theorem dp_nil : dp g [] = [] := rfl
theorem dp_snoc (m : Memo) (n : List Alt) : dp g (m ++ [n]) = dp g m ++ [g (dp g m) n] := by simp [dp, List.foldl_append]
theorem dp_pre : ∀ (m : Memo) (acc : List α), ∃ r, m.foldl (fun acc n => acc ++ [g acc n]) acc = acc ++ r ∧ r.length = m.length
  | [], acc => ⟨[], by simp, rfl⟩
  | n :: m, acc => by
    obtain ⟨r, h1, h2⟩ := dp_pre m (acc ++ [g acc n])
    exact ⟨g acc n :: r, by rw [List.foldl_cons, h1]; simp, by simp [h2]⟩
theorem dp_len (m : Memo) : (dp g m).length = m.length := by
  obtain ⟨r, h1, h2⟩ := dp_pre (g := g) m []
  unfold dp
  rw [h1]
  simpa using h2
theorem dp_take (m : Memo) (i : Nat) : (dp g m).take i = dp g (m.take i) := by
  by_cases hi : i ≤ m.length
  · obtain ⟨r, h1, h2⟩ := dp_pre (g := g) (m.drop i) (dp g (m.take i))
    have e : dp g m = dp g (m.take i) ++ r := by
      rw [← h1]
      unfold dp
      rw [← List.foldl_append, List.take_append_drop]
    rw [e, List.take_append_of_le_length (by rw [dp_len, List.length_take]; omega), List.take_of_length_le (by rw [dp_len, List.length_take]; omega)]
  · rw [List.take_of_length_le (by rw [dp_len]; omega), List.take_of_length_le (by omega)]
/-- g looks at the needs' entries alone -/
def Loc (g : List α → List Alt → α) : Prop := ∀ (acc bcc : List α) (n : List Alt), (∀ a ∈ n, ∀ x ∈ a.2, x < acc.length) → g (acc ++ bcc) n = g acc n
theorem Loc.take (L : Loc g) {acc : List α} {n : List Alt} {i : Nat} (hi : i ≤ acc.length) (h : ∀ a ∈ n, ∀ x ∈ a.2, x < i) : g (acc.take i) n = g acc n := by
  have := L (acc.take i) (acc.drop i) n (fun a ha x hx => by have := h a ha x hx; rw [List.length_take]; omega)
  rw [List.take_append_drop] at this
  exact this.symm
theorem dp_at (m : Memo) {i : Nat} {n : List Alt} (h : m[i]? = some n) : (dp g m)[i]? = some (g (dp g (m.take i)) n) := by
  have hi := (List.getElem?_eq_some_iff.mp h).1
  have e : (dp g m).take (i + 1) = dp g (m.take i) ++ [g (dp g (m.take i)) n] := by
    rw [dp_take, take_snocA h, dp_snoc]
  have h2 : ((dp g m).take (i + 1))[i]? = (dp g m)[i]? := by rw [List.getElem?_take]; simp
  rw [← h2, e, List.getElem?_append_right (by rw [dp_len, List.length_take]; omega), dp_len, List.length_take]
  simp [show i - min i m.length = 0 by omega]
theorem dp_get (L : Loc g) {m : Memo} {i : Nat} {n : List Alt} (h : m[i]? = some n) (hn : ∀ a ∈ n, ∀ x ∈ a.2, x < i) : (dp g m)[i]? = some (g (dp g m) n) := by
  have hi := (List.getElem?_eq_some_iff.mp h).1
  rw [dp_at m h, ← dp_take, L.take (by rw [dp_len]; omega) hn]
theorem getD_app {acc bcc : List α} {x : Nat} {d : α} (h : x < acc.length) : (acc ++ bcc).getD x d = acc.getD x d := by
  rw [List.getD_eq_getElem?_getD, List.getD_eq_getElem?_getD, List.getElem?_append_left h]
theorem gI_of {l : List Int} {i : Nat} {y : Int} (h : l[i]? = some y) : l.getD i 0 = y := by
  rw [List.getD_eq_getElem?_getD, h]; rfl
theorem getD_of {l : List α} {i : Nat} {d y : α} (h : l[i]? = some y) : l.getD i d = y := by
  rw [List.getD_eq_getElem?_getD, h]; rfl
end
/-! plans counted, parts counted -/
def gI (cs : List Int) (x : Nat) : Int := cs.getD x 0
def pN (cs : List Int) (ns : List Nat) : Int := (ns.map (gI cs)).foldl (· * ·) 1
def sN (cs : List Int) (ns : List Nat) : Int := (ns.map (gI cs)).sum
def cntN (cs : List Int) (n : List Alt) : Int := (n.map fun a => pN cs a.2).sum
def partsN (ps : List Int) (n : List Alt) : Int := 1 + (maxI (n.map fun a => sN ps a.2)).getD 0
theorem gI_app {acc bcc : List Int} {x : Nat} (h : x < acc.length) : gI (acc ++ bcc) x = gI acc x := getD_app h
theorem pN_app {acc bcc : List Int} {ns : List Nat} (h : ∀ x ∈ ns, x < acc.length) : pN (acc ++ bcc) ns = pN acc ns := by
  unfold pN
  rw [List.map_congr_left fun x hx => gI_app (h x hx)]
theorem sN_app {acc bcc : List Int} {ns : List Nat} (h : ∀ x ∈ ns, x < acc.length) : sN (acc ++ bcc) ns = sN acc ns := by
  unfold sN
  rw [List.map_congr_left fun x hx => gI_app (h x hx)]
theorem cnt_loc : Loc cntN := fun acc bcc n h => by
  unfold cntN
  rw [List.map_congr_left fun a ha => pN_app (h a ha)]
theorem parts_loc : Loc partsN := fun acc bcc n h => by
  unfold partsN
  rw [List.map_congr_left fun a ha => sN_app (h a ha)]
theorem pN_nil {cs : List Int} : pN cs [] = 1 := rfl
theorem pN_snoc {cs : List Int} {ns : List Nat} {x : Nat} : pN cs (ns ++ [x]) = pN cs ns * gI cs x := by simp [pN, List.foldl_append]
theorem pN_one {cs : List Int} {x : Nat} : pN cs [x] = gI cs x := by simp [pN]
theorem pN_two {cs : List Int} {x y : Nat} : pN cs [x, y] = gI cs x * gI cs y := by simp [pN]
theorem sN_snoc {cs : List Int} {ns : List Nat} {x : Nat} : sN cs (ns ++ [x]) = sN cs ns + gI cs x := by simp [sN]
theorem cntN_snoc {cs : List Int} {n : List Alt} {a : Alt} : cntN cs (n ++ [a]) = cntN cs n + pN cs a.2 := by simp [cntN]
abbrev cnts (m : Memo) : List Int := dp cntN m
abbrev prts (m : Memo) : List Int := dp partsN m
/-- counts bounded -/
def CntB (m : Memo) : Prop := ∀ c ∈ cnts m, 0 ≤ c ∧ c ≤ 10000000000000000000000000000000000000000
theorem CntB.gI {m : Memo} (h : CntB m) (x : Nat) : 0 ≤ gI (cnts m) x ∧ gI (cnts m) x ≤ 10000000000000000000000000000000000000000 := by
  unfold Dk.gI
  rw [List.getD_eq_getElem?_getD]
  cases e : (cnts m)[x]? with
  | none => exact ⟨by decide, by decide⟩
  | some y => exact h y (List.mem_of_getElem? e)
def spCount : Nat → DSp
  | 0 => fun _ _ _ => False
  | f + 1 => fun as pn P => ∃ (m : Memo) (a : Dk.Arg) (alts : List Alt), as = [.val (memoD m), a] ∧ seqA a = some (alts.map altD) ∧ Good m ∧ CntB m ∧ alts.length ≤ 1000 ∧ (∀ al ∈ alts, al.2.length ≤ 2 ∧ ∀ x ∈ al.2, x < f ∧ x < m.length) ∧ P (.int (cntN (cnts m) alts)) pn
def spParts : Nat → DSp
  | 0 => fun _ _ _ => False
  | f + 1 => fun as pn P => ∃ (m : Memo) (a : Dk.Arg) (alts : List Alt), as = [.val (memoD m), a] ∧ seqA a = some (alts.map altD) ∧ Good m ∧ alts ≠ [] ∧ alts.length ≤ 1000 ∧ (∀ al ∈ alts, al.2.length ≤ 2 ∧ ∀ x ∈ al.2, x < f ∧ x < m.length) ∧ P (.int (partsN (prts m) alts)) pn
/-! memos that are drawn -/
def FineA (size i : Nat) (a : Alt) : Prop := (a.1.length = size ∧ ∀ x ∈ a.1, 0 ≤ x ∧ x ≤ 1000000) ∧ a.2.length ≤ 2 ∧ ∀ x ∈ a.2, x < i
theorem FineA.mono {size i j : Nat} {a : Alt} (h : FineA size i a) (e : i ≤ j) : FineA size j a := ⟨h.1, h.2.1, fun x hx => Nat.lt_of_lt_of_le (h.2.2 x hx) e⟩
structure Fine (size most : Nat) (B : Int) (m : Memo) : Prop where
  node : ∀ (i : Nat) (n : List Alt), m[i]? = some n → n ≠ [] ∧ n.length ≤ most ∧ ∀ a : Alt, a ∈ n → FineA size i a
  cnt : ∀ c ∈ cnts m, 1 ≤ c ∧ c ≤ B
  prt : ∀ c ∈ prts m, 1 ≤ c ∧ c ≤ 31
theorem Fine.good {size most : Nat} {B : Int} {m : Memo} (h : Fine size most B m) (hc : most ≤ 1000) : Good m := fun i n hn => ⟨(h.node i n hn).1, by have := (h.node i n hn).2.1; omega, fun a ha => ((h.node i n hn).2.2 a ha).2⟩
theorem Fine.cntB {size most : Nat} {B : Int} {m : Memo} (h : Fine size most B m) (hB : B ≤ 10000000000000000000000000000000000000000) : CntB m := fun c hc => by
  have := h.cnt c hc
  omega
theorem Fine.nil {size most : Nat} {B : Int} : Fine size most B [] := ⟨fun i n hn => by simp at hn, fun c hc => by simp [dp] at hc, fun c hc => by simp [dp] at hc⟩
theorem Fine.snoc {size most : Nat} {B : Int} {m : Memo} {n : List Alt} (h : Fine size most B m) (h0 : n ≠ []) (h1 : n.length ≤ most) (h2 : ∀ a ∈ n, FineA size m.length a) (hc : 1 ≤ cntN (cnts m) n ∧ cntN (cnts m) n ≤ B) (hp : 1 ≤ partsN (prts m) n ∧ partsN (prts m) n ≤ 31) : Fine size most B (m ++ [n]) := by
  refine ⟨fun i x hx => ?_, fun c hc' => ?_, fun c hc' => ?_⟩
  · by_cases hi : i < m.length
    · rw [List.getElem?_append_left hi] at hx
      exact h.node i x hx
    · rw [List.getElem?_append_right (by omega)] at hx
      by_cases e : i = m.length
      · subst e
        simp at hx
        subst hx
        exact ⟨h0, h1, h2⟩
      · rw [List.getElem?_eq_none (by simp; omega)] at hx
        cases hx
  · rw [show cnts (m ++ [n]) = cnts m ++ [cntN (cnts m) n] from dp_snoc m n] at hc'
    rcases List.mem_append.mp hc' with hc' | hc'
    · exact h.cnt c hc'
    · rw [List.mem_singleton.mp hc']; exact hc
  · rw [show prts (m ++ [n]) = prts m ++ [partsN (prts m) n] from dp_snoc m n] at hc'
    rcases List.mem_append.mp hc' with hc' | hc'
    · exact h.prt c hc'
    · rw [List.mem_singleton.mp hc']; exact hp
/-- the number of draws that a memo costs at most -/
def costM (N C : Nat) : Nat := 3 + N * (20 * C + 20)
def spDrawMemo : DSp := fun as pn P => ∃ (p : Pen) (N C : Nat) (M : Int) (b : Nat), as = [.pen, .val (.int N), .val (.int C), .val (.int M)] ∧ 0 < N ∧ N ≤ 23 ∧ 0 < C ∧ C ≤ 12 ∧ 1 ≤ M ∧ M ≤ 100000000000000000000000000000000000 ∧ pn = some p ∧ Bud p (b + costM N C) ∧
  ∀ (m : Memo) (size : Nat) p', m ≠ [] → m.length ≤ N → 1 ≤ size → size ≤ 3 → Fine size (C + 1) (M + C) m → Bud p' b → P (memoD m) (some p')
theorem partsN_le {ps : List Int} {n : List Alt} (h : partsN ps n ≤ 31) : ∀ a ∈ n, sN ps a.2 ≤ 30 := fun a ha => by
  unfold partsN at h
  cases e : maxI (n.map fun a => sN ps a.2) with
  | none =>
    cases n with
    | nil => simp at ha
    | cons b r => cases e
  | some m =>
    rw [e] at h
    have := (maxI_spec e).2 _ (List.mem_map.mpr ⟨a, ha, rfl⟩)
    simp at h
    omega
theorem partsN_rng {ps : List Int} {n : List Alt} (h0 : n ≠ []) (h : ∀ a ∈ n, 0 ≤ sN ps a.2 ∧ sN ps a.2 ≤ 30) : 1 ≤ partsN ps n ∧ partsN ps n ≤ 31 := by
  unfold partsN
  cases e : maxI (n.map fun a => sN ps a.2) with
  | none =>
    cases n with
    | nil => exact absurd rfl h0
    | cons b r => cases e
  | some m =>
    obtain ⟨a, ha, e2⟩ := List.mem_map.mp (maxI_spec e).1
    have := h a ha
    simp
    omega
theorem foldl_pos : ∀ (xs : List Int) (acc : Int), 1 ≤ acc → (∀ x ∈ xs, 1 ≤ x) → 1 ≤ xs.foldl (· * ·) acc
  | [], acc, h, _ => h
  | x :: xs, acc, h, hx => by
    rw [List.foldl_cons]
    refine foldl_pos xs _ ?_ fun y hy => hx y (by simp [hy])
    have := Int.mul_le_mul h (hx x (by simp)) (by decide) (by omega)
    simpa using this
theorem pN_pos {cs : List Int} {ns : List Nat} (h : ∀ x ∈ ns, 1 ≤ gI cs x) : 1 ≤ pN cs ns := foldl_pos _ _ (by decide) fun y hy => by
  obtain ⟨x, hx, rfl⟩ := List.mem_map.mp hy
  exact h x hx
theorem sN_pos {cs : List Int} : ∀ {ns : List Nat}, (∀ x ∈ ns, 0 ≤ gI cs x) → 0 ≤ sN cs ns
  | [], _ => by simp [sN]
  | n :: ns, h => by
    have h1 := h n (by simp)
    have h2 := sN_pos (cs := cs) (ns := ns) fun x hx => h x (by simp [hx])
    have e : sN cs (n :: ns) = gI cs n + sN cs ns := by simp [sN]
    omega
theorem Fine.gIc {size most : Nat} {B : Int} {m : Memo} (h : Fine size most B m) {x : Nat} (hx : x < m.length) : 1 ≤ gI (cnts m) x ∧ gI (cnts m) x ≤ B := by
  have hl : x < (cnts m).length := by rw [dp_len]; exact hx
  have e : gI (cnts m) x = (cnts m)[x] := gI_of (List.getElem?_eq_getElem hl)
  rw [e]
  exact h.cnt _ (List.getElem_mem hl)
theorem Fine.gIp {size most : Nat} {B : Int} {m : Memo} (h : Fine size most B m) {x : Nat} (hx : x < m.length) : 1 ≤ gI (prts m) x ∧ gI (prts m) x ≤ 31 := by
  have hl : x < (prts m).length := by rw [dp_len]; exact hx
  have e : gI (prts m) x = (prts m)[x] := gI_of (List.getElem?_eq_getElem hl)
  rw [e]
  exact h.prt _ (List.getElem_mem hl)
end Dk
set_option Elab.async false
set_option linter.all false
set_option maxRecDepth 100000
set_option maxHeartbeats 2000000
/-! Dr: a text shown tells its datum, where that is made of none, bools, ints, lists, tuples. -/
namespace Dk
open PySem PySem.Spec PyProof.Rows L2
def cod (x : Str) : List Nat := x.cps.toList
theorem cod_app (a b : Str) : cod (a ++ b) = cod a ++ cod b := by
  unfold cod
  rw [show (a ++ b).cps = a.cps ++ b.cps from rfl, Array.toList_append]
theorem cod_inj {a b : Str} (h : cod a = cod b) : a = b := by
  cases a
  cases b
  congr 1
  exact Array.toList_inj.mp h
def Sig (c : Nat) : Prop := c = 45 ∨ (48 ≤ c ∧ c ≤ 57)
def Stop (r : List Nat) : Prop := r = [] ∨ ∃ c r', r = c :: r' ∧ (c = 44 ∨ c = 41 ∨ c = 93)
theorem munch {xs ys r r' : List Nat} (hx : ∀ c ∈ xs, Sig c) (hy : ∀ c ∈ ys, Sig c) (h : Stop r) (h' : Stop r') (e : xs ++ r = ys ++ r') : xs = ys ∧ r = r' := by
  have ns : ∀ {c : Nat} {q : List Nat}, Sig c → ¬ Stop (c :: q) := fun {c q} hc hs => by
    rcases hs with hs | ⟨d, q', hs, hd⟩
    · cases hs
    · cases hs
      unfold Sig at hc
      omega
  induction xs generalizing ys with
  | nil =>
    cases ys with
    | nil => exact ⟨rfl, e⟩
    | cons y ys =>
      rw [List.nil_append, List.cons_append] at e
      rw [e] at h
      exact absurd h (ns (hy y (by simp)))
  | cons x xs ih =>
    cases ys with
    | nil =>
      rw [List.nil_append, List.cons_append] at e
      rw [← e] at h'
      exact absurd h' (ns (hx x (by simp)))
    | cons y ys =>
      rw [List.cons_append, List.cons_append] at e
      injection e with e1 e2
      obtain ⟨h1, h2⟩ := ih (fun c hc => hx c (by simp [hc])) (fun c hc => hy c (by simp [hc])) e2
      exact ⟨by rw [e1, h1], h2⟩
theorem cod_int (i : Int) : cod (PyData.shown (.int i)) = (toString i).toList.map Char.toNat := by
  exact PyProof.Rows.signs_ofString (toString i)
theorem char_sig {c : Char} (h : c.isDigit = true) : Sig c.toNat := by
  simp [Char.isDigit] at h
  right
  have h1 : (48 : UInt32) ≤ c.val := h.1
  have h2 : c.val ≤ (57 : UInt32) := h.2
  exact ⟨by have := UInt32.le_iff_toNat_le.mp h1; simpa using this, by have := UInt32.le_iff_toNat_le.mp h2; simpa using this⟩
theorem nat_sig (n : Nat) : ∀ c ∈ n.repr.toList, Sig c.toNat := fun c hc => by
  have : c ∈ Nat.toDigits 10 n := by simpa [Nat.repr] using hc
  exact char_sig (Nat.isDigit_of_mem_toDigits (by decide) (by decide) this)
theorem nat_ne (n : Nat) : n.repr.toList ≠ [] := by
  have : Nat.toDigits 10 n ≠ [] := Nat.toDigits_ne_nil
  simpa [Nat.repr] using this
theorem int_sig (i : Int) : (∀ c ∈ cod (PyData.shown (.int i)), Sig c) ∧ cod (PyData.shown (.int i)) ≠ [] := by
  rw [cod_int]
  cases i with
  | ofNat n =>
    have e : toString (Int.ofNat n) = n.repr := rfl
    rw [e]
    refine ⟨fun c hc => ?_, by simpa using nat_ne n⟩
    obtain ⟨d, hd, rfl⟩ := List.mem_map.mp hc
    exact nat_sig n d hd
  | negSucc n =>
    have e : toString (Int.negSucc n) = "-" ++ (n + 1).repr := rfl
    rw [e]
    refine ⟨fun c hc => ?_, by simp⟩
    obtain ⟨d, hd, rfl⟩ := List.mem_map.mp hc
    rw [String.toList_append, List.mem_append] at hd
    rcases hd with hd | hd
    · have : d = '-' := by simpa using hd
      subst this
      exact .inl rfl
    · exact nat_sig _ d hd
theorem int_inj {i j : Int} (h : cod (PyData.shown (.int i)) = cod (PyData.shown (.int j))) : i = j := by
  rw [cod_int, cod_int] at h
  have h1 : (toString i).toList = (toString j).toList := (List.map_inj_right (f := Char.toNat) (fun a b hab => Char.toNat_inj.mp hab)).mp h
  have h2 : toString i = toString j := String.toList_inj.mp h1
  exact Int.repr_inj.mp h2
/-- the first sign tells the kind -/
def kd : D → Nat → Prop
  | .none, c => c = 78
  | .bool true, c => c = 84
  | .bool false, c => c = 70
  | .int _, c => Sig c
  | .str _, c => c = 39 ∨ c = 34
  | .list _, c => c = 91
  | .tuple _, c => c = 40
  | .dict _, c => c = 123
theorem fold_pre (f : Nat → Array Nat) : ∀ (l : List Nat) (acc : Array Nat), ∃ q, (l.foldl (fun out c => out ++ f c) acc).toList = acc.toList ++ q
  | [], acc => ⟨[], by simp⟩
  | c :: l, acc => by
    obtain ⟨q, h⟩ := fold_pre f l (acc ++ f c)
    exact ⟨(f c).toList ++ q, by rw [List.foldl_cons, h]; simp⟩
theorem cod_none : cod (PyData.shown .none) = [78, 111, 110, 101] := by show cod (Str.ofString "None") = _; decide
theorem cod_true : cod (PyData.shown (.bool true)) = [84, 114, 117, 101] := by show cod (Str.ofString "True") = _; decide
theorem cod_false : cod (PyData.shown (.bool false)) = [70, 97, 108, 115, 101] := by show cod (Str.ofString "False") = _; decide
def tailT : List Str → List Nat
  | [] => []
  | t :: ts => 44 :: 32 :: (cod t ++ tailT ts)
def bodyT : List Str → List Nat
  | [] => []
  | t :: ts => cod t ++ tailT ts
theorem cod_join : ∀ ts : List Str, cod (Str.join ", " ts) = bodyT ts
  | [] => rfl
  | [x] => by show cod x = cod x ++ []; simp
  | x :: y :: r => by
    have ih := cod_join (y :: r)
    show cod (x ++ ", " ++ Str.join ", " (y :: r)) = _
    rw [cod_app, cod_app, ih, show cod ((", " : String) : Str) = [44, 32] by decide]
    simp [bodyT, tailT]
theorem cod_from : ∀ (ts : List Str) (k : Nat) (acc : Str), cod (textFrom k acc ts) = cod acc ++ (if k = 0 then bodyT ts else tailT ts)
  | [], k, acc => by
    show cod acc = _
    split <;> simp [bodyT, tailT]
  | t :: ts, k, acc => by
    show cod (textFrom (k + 1) (acc ++ (if k > 0 then ", " else "" : String) ++ t) ts) = _
    rw [cod_from ts, if_neg (Nat.succ_ne_zero k), cod_app, cod_app]
    by_cases hk : k = 0
    · subst hk
      simp [bodyT, show cod (("" : String) : Str) = [] by decide]
    · rw [if_pos (show k > 0 by omega), if_neg hk, show cod ((", " : String) : Str) = [44, 32] by decide]
      simp [tailT]
theorem cod_list (ds : List D) : cod (PyData.shown (.list ds)) = 91 :: (bodyT (PyData.shownAll ds) ++ [93]) := by
  show cod (listText (PyData.shownAll ds)) = _
  unfold listText
  rw [cod_app, cod_from, if_pos rfl, show cod (("[" : String) : Str) = [91] by decide, show cod (("]" : String) : Str) = [93] by decide]
  simp
theorem cod_tuple (ds : List D) : cod (PyData.shown (.tuple ds)) = 40 :: (bodyT (PyData.shownAll ds) ++ (if ds.length = 1 then [44, 41] else [41])) := by
  show cod (tupleText (PyData.shownAll ds)) = _
  have hl : (PyData.shownAll ds).length = ds.length := by
    induction ds with
    | nil => rfl
    | cons d ds ih => simp [PyData.shownAll, ih]
  unfold tupleText
  rw [cod_app, cod_app, cod_join, hl, show cod (("(" : Str)) = [40] by decide]
  by_cases h : ds.length = 1
  · rw [if_pos (by simpa using h), if_pos h, show cod ((",)" : String) : Str) = [44, 41] by decide]
    simp
  · rw [if_neg (by simpa using h), if_neg h, show cod ((")" : String) : Str) = [41] by decide]
    simp
theorem hdc (d : D) : ∃ c q, cod d.shown = c :: q ∧ kd d c := by
  cases d with
  | none => exact ⟨_, _, cod_none, rfl⟩
  | bool b => cases b <;> first | exact ⟨_, _, cod_true, rfl⟩ | exact ⟨_, _, cod_false, rfl⟩
  | int i =>
    obtain ⟨h1, h2⟩ := int_sig i
    cases e : cod (PyData.shown (.int i)) with
    | nil => exact absurd e h2
    | cons c q => exact ⟨c, q, rfl, h1 c (by rw [e]; simp)⟩
  | str x =>
    obtain ⟨q, h⟩ := fold_pre (fun c => (Builtin.Str.reprChar (reprQuote x) c).toArray) x.cps.toList #[reprQuote x]
    have e : cod (PyData.shown (.str x)) = reprQuote x :: (q ++ [reprQuote x]) := by
      show ((x.cps.foldl (fun out c => out ++ (Builtin.Str.reprChar (reprQuote x) c).toArray) #[reprQuote x]).push (reprQuote x)).toList = _
      rw [Array.toList_push, ← Array.foldl_toList, h]
      simp
    exact ⟨_, _, e, by unfold reprQuote; split <;> simp [kd]⟩
  | list ds => exact ⟨_, _, cod_list ds, rfl⟩
  | tuple ds => exact ⟨_, _, cod_tuple ds, rfl⟩
  | dict kvs =>
    refine ⟨123, bodyT (PyData.shownKv kvs) ++ [125], ?_, rfl⟩
    show cod (dictText (PyData.shownKv kvs)) = _
    unfold dictText
    rw [cod_app, cod_app, cod_join, show cod (("{" : Str)) = [123] by decide, show cod (("}" : String) : Str) = [125] by decide]
    simp
mutual
def nt : D → Bool
  | .none => true
  | .bool _ => true
  | .int _ => true
  | .str _ => false
  | .list ds => ntA ds
  | .tuple ds => ntA ds
  | .dict _ => false
def ntA : List D → Bool
  | [] => true
  | d :: ds => nt d && ntA ds
end
theorem stop_tail {ts : List Str} {c : Nat} {r : List Nat} (hc : c = 44 ∨ c = 41 ∨ c = 93) : Stop (tailT ts ++ c :: r) := by
  cases ts with
  | nil => exact .inr ⟨c, r, rfl, hc⟩
  | cons t ts => exact .inr ⟨44, _, rfl, .inl rfl⟩
theorem kd_not {d : D} {c : Nat} (h : kd d c) : c ≠ 41 ∧ c ≠ 93 ∧ c ≠ 44 := by
  cases d with
  | none => cases h; decide
  | bool b => cases b <;> cases h <;> decide
  | int i => have : Sig c := h; unfold Sig at this; omega
  | str x => rcases h with rfl | rfl <;> decide
  | list ds => cases h; decide
  | tuple ds => cases h; decide
  | dict kvs => cases h; decide
theorem same_kind {d e : D} {r r' : List Nat} (h : cod d.shown ++ r = cod e.shown ++ r') : ∃ c, kd d c ∧ kd e c := by
  obtain ⟨c, q, h1, h2⟩ := hdc d
  obtain ⟨c', q', h3, h4⟩ := hdc e
  rw [h1, h3] at h
  injection h with h5 _
  exact ⟨c, h2, by rw [h5]; exact h4⟩
theorem shownAll_cons {d : D} {ds : List D} : PyData.shownAll (d :: ds) = d.shown :: PyData.shownAll ds := rfl
mutual
theorem shown_inj : ∀ (e d : D) (r r' : List Nat), nt e = true → Stop r → Stop r' → cod d.shown ++ r = cod e.shown ++ r' → d = e ∧ r = r'
  | .none, d, r, r', _, hr, hr', h => by
    obtain ⟨c, h1, h2⟩ := same_kind h
    cases h2
    cases d with
    | none => rw [cod_none] at h; exact ⟨rfl, by simpa using h⟩
    | bool b => cases b <;> cases h1
    | int i => have : Sig 78 := h1; unfold Sig at this; omega
    | str x => rcases h1 with h1 | h1 <;> cases h1
    | list ds => cases h1
    | tuple ds => cases h1
    | dict kvs => cases h1
  | .bool b, d, r, r', _, hr, hr', h => by
    obtain ⟨c, h1, h2⟩ := same_kind h
    have hc : c = 84 ∨ c = 70 := by cases b <;> cases h2 <;> simp
    cases d with
    | none => cases h1; omega
    | bool b' =>
      cases b <;> cases b' <;> cases h2 <;> cases h1
      · rw [cod_false] at h; exact ⟨rfl, by simpa using h⟩
      · rw [cod_true] at h; exact ⟨rfl, by simpa using h⟩
    | int i => have : Sig c := h1; unfold Sig at this; omega
    | str x => rcases h1 with h1 | h1 <;> omega
    | list ds => cases h1; omega
    | tuple ds => cases h1; omega
    | dict kvs => cases h1; omega
  | .int i, d, r, r', _, hr, hr', h => by
    obtain ⟨c, h1, h2⟩ := same_kind h
    have hc : Sig c := h2
    unfold Sig at hc
    cases d with
    | none => cases h1; omega
    | bool b => cases b <;> cases h1 <;> omega
    | int j =>
      obtain ⟨g1, g2⟩ := munch (int_sig j).1 (int_sig i).1 hr hr' h
      exact ⟨by rw [int_inj g1], g2⟩
    | str x => rcases h1 with h1 | h1 <;> omega
    | list ds => cases h1; omega
    | tuple ds => cases h1; omega
    | dict kvs => cases h1; omega
  | .str x, d, r, r', hn, _, _, _ => by simp [nt] at hn
  | .dict x, d, r, r', hn, _, _, _ => by simp [nt] at hn
  | .list es, d, r, r', hn, hr, hr', h => by
    rw [nt] at hn
    obtain ⟨c, h1, h2⟩ := same_kind h
    cases h2
    cases d with
    | none => cases h1
    | bool b => cases b <;> cases h1
    | int i => have : Sig 91 := h1; unfold Sig at this; omega
    | str x => rcases h1 with h1 | h1 <;> cases h1
    | tuple ds => cases h1
    | dict kvs => cases h1
    | list ds =>
      rw [cod_list, cod_list] at h
      simp only [List.cons_append, List.append_assoc, List.nil_append, List.cons.injEq, true_and] at h
      match es, ds, hn, h with
      | [], [], _, h => exact ⟨rfl, by simpa [bodyT, PyData.shownAll] using h⟩
      | [], d :: ds, _, h =>
        obtain ⟨c, q, g1, g2⟩ := hdc d
        simp [bodyT, PyData.shownAll, g1] at h
        exact absurd h.1 (kd_not g2).2.1
      | e :: es, [], _, h =>
        obtain ⟨c, q, g1, g2⟩ := hdc e
        simp [bodyT, PyData.shownAll, g1] at h
        exact absurd h.1.symm (kd_not g2).2.1
      | e :: es, d :: ds, hn, h =>
        rw [ntA, Bool.and_eq_true] at hn
        rw [shownAll_cons, shownAll_cons] at h
        simp only [bodyT, List.append_assoc] at h
        obtain ⟨rfl, g⟩ := shown_inj e d _ _ hn.1 (stop_tail (.inr (.inr rfl))) (stop_tail (.inr (.inr rfl))) h
        obtain ⟨e1, g1⟩ := tail_inj es ds 93 r r' (.inr (.inr rfl)) (by decide) hn.2 g
        exact ⟨by rw [e1], g1⟩
  | .tuple es, d, r, r', hn, hr, hr', h => by
    rw [nt] at hn
    obtain ⟨c, h1, h2⟩ := same_kind h
    cases h2
    cases d with
    | none => cases h1
    | bool b => cases b <;> cases h1
    | int i => have : Sig 40 := h1; unfold Sig at this; omega
    | str x => rcases h1 with h1 | h1 <;> cases h1
    | list ds => cases h1
    | dict kvs => cases h1
    | tuple ds =>
      rw [cod_tuple, cod_tuple] at h
      simp only [List.cons_append, List.append_assoc, List.nil_append, List.cons.injEq, true_and] at h
      match es, ds, hn, h with
      | [], [], _, h => exact ⟨rfl, by simpa [bodyT, PyData.shownAll] using h⟩
      | [], d :: ds, _, h =>
        obtain ⟨c, q, g1, g2⟩ := hdc d
        simp [bodyT, PyData.shownAll, g1] at h
        exact absurd h.1 (kd_not g2).1
      | e :: es, [], _, h =>
        obtain ⟨c, q, g1, g2⟩ := hdc e
        simp [bodyT, PyData.shownAll, g1] at h
        exact absurd h.1.symm (kd_not g2).1
      | [e], [d], hn, h =>
        rw [ntA, Bool.and_eq_true] at hn
        rw [show (if ([e]).length = 1 then [44, 41] else [41] : List Nat) = [44, 41] from rfl, show (if ([d]).length = 1 then [44, 41] else [41] : List Nat) = [44, 41] from rfl] at h
        simp only [PyData.shownAll, bodyT, tailT, List.append_assoc, List.nil_append, List.cons_append] at h
        obtain ⟨rfl, g⟩ := shown_inj e d _ _ hn.1 (.inr ⟨44, _, rfl, .inl rfl⟩) (.inr ⟨44, _, rfl, .inl rfl⟩) h
        exact ⟨rfl, by simpa using g⟩
      | [e], d :: d2 :: ds, hn, h =>
        rw [ntA, Bool.and_eq_true] at hn
        rw [show (if (d :: d2 :: ds).length = 1 then [44, 41] else [41] : List Nat) = [41] from if_neg (by simp), show (if ([e]).length = 1 then [44, 41] else [41] : List Nat) = [44, 41] from rfl] at h
        simp only [PyData.shownAll, bodyT, tailT, List.append_assoc, List.nil_append, List.cons_append] at h
        obtain ⟨rfl, g⟩ := shown_inj e d _ _ hn.1 (.inr ⟨44, _, rfl, .inl rfl⟩) (.inr ⟨44, _, rfl, .inl rfl⟩) h
        simp at g
      | e :: e2 :: es, [d], hn, h =>
        rw [ntA, Bool.and_eq_true] at hn
        rw [show (if (e :: e2 :: es).length = 1 then [44, 41] else [41] : List Nat) = [41] from if_neg (by simp), show (if ([d]).length = 1 then [44, 41] else [41] : List Nat) = [44, 41] from rfl] at h
        simp only [PyData.shownAll, bodyT, tailT, List.append_assoc, List.nil_append, List.cons_append] at h
        obtain ⟨rfl, g⟩ := shown_inj e d _ _ hn.1 (.inr ⟨44, _, rfl, .inl rfl⟩) (.inr ⟨44, _, rfl, .inl rfl⟩) h
        simp at g
      | e :: e2 :: es, d :: d2 :: ds, hn, h =>
        rw [ntA, Bool.and_eq_true] at hn
        rw [show (if (e :: e2 :: es).length = 1 then [44, 41] else [41] : List Nat) = [41] from if_neg (by simp), show (if (d :: d2 :: ds).length = 1 then [44, 41] else [41] : List Nat) = [41] from if_neg (by simp)] at h
        rw [shownAll_cons (d := d), shownAll_cons (d := e)] at h
        simp only [bodyT, List.append_assoc, List.cons_append, List.nil_append] at h
        obtain ⟨rfl, g⟩ := shown_inj e d _ _ hn.1 (stop_tail (.inr (.inl rfl))) (stop_tail (.inr (.inl rfl))) h
        obtain ⟨e1, g1⟩ := tail_inj (e2 :: es) (d2 :: ds) 41 r r' (.inr (.inl rfl)) (by decide) hn.2 g
        rw [e1]
        exact ⟨rfl, g1⟩
theorem tail_inj : ∀ (es ds : List D) (c : Nat) (r r' : List Nat), (c = 44 ∨ c = 41 ∨ c = 93) → c ≠ 44 → ntA es = true → tailT (PyData.shownAll ds) ++ c :: r = tailT (PyData.shownAll es) ++ c :: r' → ds = es ∧ r = r'
  | [], [], c, r, r', _, _, _, h => ⟨rfl, by simpa [PyData.shownAll, tailT] using h⟩
  | [], d :: ds, c, r, r', _, h4, _, h => by
    simp [PyData.shownAll, tailT] at h
    exact absurd h.1.symm h4
  | e :: es, [], c, r, r', _, h4, _, h => by
    simp [PyData.shownAll, tailT] at h
    exact absurd h.1 h4
  | e :: es, d :: ds, c, r, r', hc, h4, hn, h => by
    rw [ntA, Bool.and_eq_true] at hn
    rw [shownAll_cons, shownAll_cons] at h
    simp only [tailT, List.cons_append, List.append_assoc, List.cons.injEq, true_and] at h
    obtain ⟨rfl, g⟩ := shown_inj e d _ _ hn.1 (stop_tail hc) (stop_tail hc) h
    obtain ⟨e1, g1⟩ := tail_inj es ds c r r' hc h4 hn.2 g
    exact ⟨by rw [e1], g1⟩
end
theorem shown_eq {d e : D} (h : nt e = true) : d.shown = e.shown ↔ d = e := by
  refine ⟨fun q => ?_, fun q => by rw [q]⟩
  have := shown_inj e d [] [] h (.inl rfl) (.inl rfl) (by rw [q])
  exact this.1
end Dk
set_option Elab.async false
set_option linter.all false
set_option maxRecDepth 100000
set_option maxHeartbeats 2000000
/-! Dc: costs: corners, mixes, sums of products. -/
namespace Dk
open PySem PySem.Spec PyProof.Rows L2
def tupI (ns : List Int) : D := .tuple (ns.map .int)
def cornersD (cs : List (List Int)) : D := .tuple (cs.map tupI)
def dotI (xs ys : List Int) : Int := ((xs.zip ys).map fun p => p.1 * p.2).sum
def ownC (cs : List (List Int)) (ams : List Int) : List Int := cs.map fun c => dotI c ams
theorem pairL_ints : ∀ xs ys : List Int, pairL (xs.map .int) (ys.map .int) = (xs.zip ys).map fun p => PyData.tuple [.int p.1, .int p.2]
  | [], _ => rfl
  | _ :: _, [] => rfl
  | x :: xs, y :: ys => by
    have := pairL_ints xs ys
    unfold pairL at this ⊢
    rw [List.map_cons, List.map_cons, List.zipWith_cons_cons, this, List.zip_cons_cons, List.map_cons]
theorem zipF_ok {st c1 c2 : Bool} {d e : D} {xs ys : List D} (h1 : seqK c1 d = some xs) (h2 : seqK c2 e = some ys) (h : st = true → xs.length = ys.length) : zipF st c1 c2 [d, e] = some (pairL xs ys) := by
  show ((seqK c1 d).bind fun xs => (seqK c2 e).bind fun ys => if st = true ∧ xs.length ≠ ys.length then none else some (pairL xs ys)) = _
  rw [h1, h2]
  cases st with
  | false => rfl
  | true => simp [h rfl]
theorem items2 {S : Type} [StK S] {k1 k2 : Tk} {f : List D → Option (List D)} {sl : En S} {d e : D} {items : List D} (h1 : k1.rd sl = some d) (h2 : k2.rd sl = some e) (h : f [d, e] = some items) : Sc.items ⟨[k1, k2], f⟩ sl = some items := by
  unfold Sc.items rds
  rw [h1]
  show ((some d).bind fun d => (rds sl [k2]).bind fun ds => some (d :: ds)).bind f = _
  rw [rds, h2]
  exact h
theorem items1 {S : Type} [StK S] {k1 : Tk} {f : List D → Option (List D)} {sl : En S} {d : D} {items : List D} (h1 : k1.rd sl = some d) (h : f [d] = some items) : Sc.items ⟨[k1], f⟩ sl = some items := by
  unfold Sc.items rds
  rw [h1]
  exact h
theorem seqA_cases {a : Dk.Arg} {ds : List D} (h : seqA a = some ds) : a = .val (.list ds) ∨ a = .val (.tuple ds) ∨ a = .bor ds := by
  cases a with
  | pen => cases h
  | scr ns => cases h
  | ref a => cases h
  | bor xs => cases h; exact .inr (.inr rfl)
  | val d =>
    cases d with
    | list xs => cases h; exact .inl rfl
    | tuple xs => cases h; exact .inr (.inl rfl)
    | _ => cases h
section
variable {S : Type} [StK S] {α : Type} {c : Sc} {items : List D} {g : (GW S)} {te : (OW S)} {vs : List Nat} {Q : List D → (En S) → Prop} {ρ0 : (En S)} {ts : List α}
theorem lcW_mapI (e : α → D) (h : α → Int) (hi : items = ts.map e) (hc : c.items ρ0 = some items)
    (step : ∀ t ∈ ts, ∀ N : D → (En S) → Prop, N (.int (h t)) ρ0 → g (e t) ρ0 fun ρ1 => te ρ1 fun k ρ3 => gets k.valD fun y => N y ⟨wipeD ρ3.sl vs, ρ3.pn⟩)
    (q : Q ((ts.map h).map .int) ρ0) : lcW c items g dYes te vs Q items [] ρ0 :=
  lcW_map e (fun t => .int (h t)) hi hc step (by rw [List.map_map] at q; exact q)
theorem lcW_mapB (e : α → D) (h : α → Bool) (hi : items = ts.map e) (hc : c.items ρ0 = some items)
    (step : ∀ t ∈ ts, ∀ N : D → (En S) → Prop, N (.bool (h t)) ρ0 → g (e t) ρ0 fun ρ1 => te ρ1 fun k ρ3 => gets k.valD fun y => N y ⟨wipeD ρ3.sl vs, ρ3.pn⟩)
    (q : Q ((ts.map h).map .bool) ρ0) : lcW c items g dYes te vs Q items [] ρ0 :=
  lcW_map e (fun t => .bool (h t)) hi hc step (by rw [List.map_map] at q; exact q)
/-- items kept by a test -/
theorem lcW_filter {tt : (BW S)} (t : D → Bool) (hc : c.items ρ0 = some items)
    (step : ∀ d ∈ items, ∀ N : Bool → D → (En S) → Prop, (t d = true → N true d ρ0) → (t d = false → N false d ρ0) → g d ρ0 fun ρ1 => tt ρ1 fun b ρ2 => if b = true then te ρ2 fun k ρ3 => gets k.valD fun y => N true y ⟨wipeD ρ3.sl vs, ρ3.pn⟩ else N false d ⟨wipeD ρ2.sl vs, ρ2.pn⟩)
    (q : Q (items.filter t) ρ0) : lcW c items g tt te vs Q items [] ρ0 := by
  refine lcW_inv (fun i acc ρ => ρ = ρ0 ∧ acc = (items.take i).filter t) ?_ ?_ ?_ ⟨rfl, rfl⟩
  · rintro i acc ρ ⟨rfl, _⟩
    exact hc
  · rintro i d acc ρ h ⟨rfl, rfl⟩ N hN
    have := step d (List.mem_of_getElem? h) (fun b y ρ' => if b = true then N ((items.take i).filter t ++ [y]) ρ' else N ((items.take i).filter t) ρ')
      (fun ht => hN _ _ ⟨rfl, by rw [take_snocA h, List.filter_append]; simp [ht]⟩) (fun ht => hN _ _ ⟨rfl, by rw [take_snocA h, List.filter_append]; simp [ht]⟩)
    simpa using this
  · rintro acc ρ ⟨rfl, rfl⟩
    rw [List.take_length]
    exact q
end
def spDot : DSp := fun as pn P => ∃ (a1 a2 : Dk.Arg) (xs ys : List Int), as = [a1, a2] ∧ seqA a1 = some (xs.map .int) ∧ seqA a2 = some (ys.map .int) ∧ xs.length = ys.length ∧ (∀ p ∈ xs.zip ys, CMulW p.1 p.2) ∧ P (.int (dotI xs ys)) pn
def spOwn : DSp := fun as pn P => ∃ (cs : List (List Int)) (ams : List Int), as = [.val (cornersD cs), .val (tupI ams)] ∧ (∀ c ∈ cs, c.length = ams.length ∧ ∀ p ∈ c.zip ams, CMulW p.1 p.2) ∧ P (tupI (ownC cs ams)) pn
theorem dot_comm : ∀ xs ys : List Int, dotI xs ys = dotI ys xs
  | [], [] => rfl
  | [], _ :: _ => rfl
  | _ :: _, [] => rfl
  | x :: xs, y :: ys => by
    have h := dot_comm xs ys
    unfold dotI at h ⊢
    rw [List.zip_cons_cons, List.zip_cons_cons, List.map_cons, List.map_cons, List.sum_cons, List.sum_cons, h, Int.mul_comm]
/-! ### weights -/
def okI : D → Bool
  | .int i => decide (0 ≤ i)
  | _ => false
def toI : D → Int
  | .int i => i
  | _ => 0
def isIntD : D → Bool
  | .int _ => true
  | _ => false
def isW (n : Nat) : D → Bool
  | .tuple ds => decide (ds.length = n) && (ds.all okI && decide (0 < (ds.map toI).sum))
  | _ => false
theorem isW_tuple {n : Nat} {ds : List D} : isW n (.tuple ds) = (decide (ds.length = n) && (ds.all okI && decide (0 < (ds.map toI).sum))) := rfl
theorem ints_toI : ∀ {ds : List D}, ds.all isIntD = true → ints? ds = some (ds.map toI)
  | [], _ => rfl
  | d :: ds, h => by
    rw [List.all_cons, Bool.and_eq_true] at h
    cases d with
    | int i => rw [ints?, ints_toI h.2]; rfl
    | _ => cases h.1
theorem okI_int {d : D} (h : okI d = true) : isIntD d = true := by cases d <;> first | rfl | cases h
theorem ints_ok {ds : List D} (h : ds.all okI = true) : ints? ds = some (ds.map toI) := ints_toI (List.all_eq_true.mpr fun d hd => okI_int (List.all_eq_true.mp h d hd))
theorem isInt_map {ds : List D} (h : ds.all isIntD = true) : ds = (ds.map toI).map .int := (ints?_eq (ints_toI h))
def spWeights : DSp := fun as pn P => ∃ (v : D) (n : Nat), as = [.val v, .val (.int n)] ∧ P (.bool (isW n v)) pn
def spIsMix : DSp := fun as pn P => ∃ (v : D) (cs : List (List Int)), as = [.val (cornersD cs), .val v] ∧ P (.bool (isW cs.length v)) pn
/-! corners, mixes drawn -/
structure Cor (size : Nat) (cs : List (List Int)) : Prop where
  n0 : 1 ≤ cs.length
  n1 : cs.length ≤ 4
  c : ∀ c ∈ cs, c.length = size ∧ ∀ x ∈ c, 0 ≤ x ∧ x ≤ 1000
def spCorners : DSp := fun as pn P => ∃ (p : Pen) (m : Memo) (n : List Alt) (a : Alt) (b : Nat), as = [.pen, .val (memoD m)] ∧ m[0]? = some n ∧ n[0]? = some a ∧ 1 ≤ a.1.length ∧ a.1.length ≤ 3 ∧ pn = some p ∧ Bud p (b + 60) ∧ ∀ cs p', Cor a.1.length cs → Bud p' b → P (cornersD cs) (some p')
structure Mix (n : Nat) (mix : List Int) : Prop where
  len : mix.length = n
  x : ∀ x ∈ mix, 0 ≤ x ∧ x ≤ 1000000 * 10 ^ 90
  pos : 0 < mix.sum
def spMix : DSp := fun as pn P => ∃ (p : Pen) (n b : Nat), as = [.pen, .val (.int n)] ∧ 1 ≤ n ∧ n ≤ 100 ∧ pn = some p ∧ Bud p (b + (2 * n + 2)) ∧ ∀ mix p', Mix n mix → Bud p' b → P (tupI mix) (some p')
theorem sum_ge : ∀ {xs : List Int}, (∀ x ∈ xs, 0 ≤ x) → 0 ≤ xs.sum
  | [], _ => by simp
  | x :: xs, h => by
    have h1 := h x (by simp)
    have h2 := sum_ge (xs := xs) fun y hy => h y (by simp [hy])
    rw [List.sum_cons]
    omega
theorem sum_mem : ∀ {xs : List Int}, (∀ x ∈ xs, 0 ≤ x) → ∀ y ∈ xs, y ≤ xs.sum
  | x :: xs, h, y, hy => by
    have h1 := h x (by simp)
    have h2 := sum_ge (xs := xs) fun y hy => h y (by simp [hy])
    rw [List.sum_cons]
    rcases List.mem_cons.mp hy with rfl | hy
    · omega
    · have := sum_mem (xs := xs) (fun y hy => h y (by simp [hy])) y hy
      omega
theorem sum_pos_of {xs : List Int} {y : Int} (h : ∀ x ∈ xs, 0 ≤ x) (hy : y ∈ xs) (h1 : 0 < y) : 0 < xs.sum := by
  have := sum_mem h y hy
  omega
theorem sum_ex : ∀ {xs : List Int}, 0 < xs.sum → ∃ y ∈ xs, 0 < y
  | [], h => by simp at h
  | x :: xs, h => by
    by_cases hx : 0 < x
    · exact ⟨x, by simp, hx⟩
    · rw [List.sum_cons] at h
      obtain ⟨y, hy, h2⟩ := sum_ex (xs := xs) (by omega)
      exact ⟨y, by simp [hy], h2⟩
theorem dot_bd {A B : Int} (hA : 0 ≤ A) (hB : 0 ≤ B) : ∀ {xs ys : List Int}, (∀ x ∈ xs, 0 ≤ x ∧ x ≤ A) → (∀ y ∈ ys, 0 ≤ y ∧ y ≤ B) → 0 ≤ dotI xs ys ∧ dotI xs ys ≤ xs.length * (A * B)
  | [], ys, _, _ => by simp [dotI]
  | x :: xs, [], _, _ => by
    have := Int.mul_nonneg hA hB
    have h2 : 0 ≤ ((x :: xs).length : Int) * (A * B) := Int.mul_nonneg (by omega) this
    simpa [dotI] using h2
  | x :: xs, y :: ys, hx, hy => by
    obtain ⟨h1, h2⟩ := dot_bd hA hB (xs := xs) (ys := ys) (fun z hz => hx z (by simp [hz])) (fun z hz => hy z (by simp [hz]))
    obtain ⟨x0, x1⟩ := hx x (by simp)
    obtain ⟨y0, y1⟩ := hy y (by simp)
    obtain ⟨m0, m1⟩ := mul_bd x0 x1 y0 y1
    have e : dotI (x :: xs) (y :: ys) = x * y + dotI xs ys := by simp [dotI]
    have e2 : ((x :: xs).length : Int) * (A * B) = (xs.length : Int) * (A * B) + A * B := by
      rw [List.length_cons, Int.natCast_add, Int.add_mul]
      simp
    rw [e, e2]
    omega
/-! ### the least costs of all nodes -/
def waysL (cs : List (List Int)) (mix nums : List Int) (n : List Alt) : List Int := n.map fun a => dotI (ownC cs a.1) mix + sN nums a.2
def leastW (cs : List (List Int)) (mix nums : List Int) (n : List Alt) : Int := (minI (waysL cs mix nums n)).getD 0
theorem ways_app {cs : List (List Int)} {mix acc bcc : List Int} {n : List Alt} (h : ∀ a ∈ n, ∀ x ∈ a.2, x < acc.length) : waysL cs mix (acc ++ bcc) n = waysL cs mix acc n :=
  List.map_congr_left fun a ha => by rw [sN_app (h a ha)]
theorem least_loc {cs : List (List Int)} {mix : List Int} : Loc (leastW cs mix) := fun acc bcc n h => by unfold leastW; rw [ways_app h]
abbrev numbersL (cs : List (List Int)) (mix : List Int) (m : Memo) : List Int := dp (leastW cs mix) m
/-- what the products of costs want -/
structure CostOk (m : Memo) (cs : List (List Int)) (mix : List Int) (size : Nat) : Prop where
  am : ∀ n ∈ m, ∀ a ∈ n, a.1.length = size ∧ ∀ x ∈ a.1, 0 ≤ x ∧ x ≤ 1000000
  sz : size ≤ 100
  co : ∀ c ∈ cs, c.length = size ∧ ∀ x ∈ c, 0 ≤ x ∧ x ≤ 1000
  ml : mix.length = cs.length
  mx : ∀ x ∈ mix, x.natAbs ≤ 2 ^ 4000
theorem cm_small {x y : Int} (hx : x.natAbs < 10 ^ 201) (hy : y.natAbs < 10 ^ 201) : CMulW x y := by
  have e : (10 : Nat) ^ 201 ≤ 2 ^ 1000 := by decide +kernel
  exact cmul (Nat.lt_of_lt_of_le hx e) (Nat.lt_of_lt_of_le hy e)
theorem lt201 {x : Int} (h0 : 0 ≤ x) (h : x ≤ 1000000000000000000000000000000) : x.natAbs < 10 ^ 201 := Nat.lt_of_le_of_lt (m := 1000000000000000000000000000000) (by omega) (by decide +kernel)
theorem CostOk.own {m : Memo} {cs : List (List Int)} {mix : List Int} {size : Nat} (K : CostOk m cs mix size) {n : List Alt} {a : Alt} (hn : n ∈ m) (ha : a ∈ n) : ∀ c ∈ cs, c.length = a.1.length ∧ ∀ p ∈ c.zip a.1, CMulW p.1 p.2 := fun c hc => by
  obtain ⟨h1, h2⟩ := K.am n hn a ha
  obtain ⟨h3, h4⟩ := K.co c hc
  refine ⟨by omega, fun p hp => ?_⟩
  obtain ⟨q1, q2⟩ := List.of_mem_zip hp
  have := h4 _ q1
  have := h2 _ q2
  exact cm_small (lt201 (by omega) (by omega)) (lt201 (by omega) (by omega))
theorem CostOk.at {m : Memo} {cs : List (List Int)} {mix : List Int} {size : Nat} (K : CostOk m cs mix size) {n : List Alt} {a : Alt} (hn : n ∈ m) (ha : a ∈ n) : (ownC cs a.1).length = mix.length ∧ ∀ p ∈ (ownC cs a.1).zip mix, CMulW p.1 p.2 := by
  refine ⟨by rw [K.ml]; simp [ownC], fun p hp => ?_⟩
  obtain ⟨q1, q2⟩ := List.of_mem_zip hp
  obtain ⟨c, hc, e⟩ := List.mem_map.mp q1
  obtain ⟨h1, h2⟩ := K.am n hn a ha
  obtain ⟨h3, h4⟩ := K.co c hc
  have hb := dot_bd (A := 1000) (B := 1000000) (by decide) (by decide) h4 h2
  have := K.sz
  have hx := K.mx _ q2
  rw [← e]
  have h5 : (dotI c a.1).natAbs < 2 ^ 1000 := Nat.lt_of_lt_of_le (lt201 hb.1 (by omega)) (by decide +kernel)
  exact wide_mul (a := 1000) (b := 4001) h5 (Nat.lt_of_le_of_lt hx (by decide +kernel)) (by decide) (by decide) (by decide)
def spWays : DSp := fun as pn P => ∃ (m : Memo) (cs : List (List Int)) (mix nums : List Int) (node size : Nat) (n : List Alt) (a4 : Dk.Arg), as = [.val (memoD m), .val (cornersD cs), .val (tupI mix), .val (.int node), a4] ∧ seqA a4 = some (nums.map .int) ∧ m[node]? = some n ∧ n.length ≤ 1000 ∧ CostOk m cs mix size ∧ (∀ a ∈ n, a.2.length ≤ 2 ∧ ∀ x ∈ a.2, x < nums.length) ∧
  P (.list ((waysL cs mix nums n).map .int)) pn
/-- whether data are the least costs -/
def isNums (m : Memo) (cs : List (List Int)) (mix : List Int) : D → Bool
  | .tuple ds => decide (ds.length = m.length) && (ds.all isIntD && (List.range m.length).all fun i => decide (gI (ds.map toI) i = leastW cs mix (ds.map toI) (m.getD i [])))
  | _ => false
theorem nums_of {m : Memo} {cs : List (List Int)} {mix ns : List Int} (hm : Good m) (hl : ns.length = m.length) (h : ∀ i < m.length, gI ns i = leastW cs mix ns (m.getD i [])) : ns = numbersL cs mix m := by
  have key : ∀ k, k ≤ m.length → ns.take k = numbersL cs mix (m.take k) := by
    intro k
    induction k with
    | zero => intro _; simp [dp]
    | succ k ih =>
      intro hk
      have e := ih (by omega)
      have hmk : m[k]? = some m[k] := List.getElem?_eq_getElem (by omega)
      have hnk : ns[k]? = some ns[k] := List.getElem?_eq_getElem (by omega)
      rw [take_snocA hmk, take_snocA hnk, show numbersL cs mix (m.take k ++ [m[k]]) = numbersL cs mix (m.take k) ++ [leastW cs mix (numbersL cs mix (m.take k)) m[k]] from dp_snoc _ _, ← e]
      congr 2
      have h1 := h k (by omega)
      rw [show gI ns k = ns[k] from gI_of hnk, show m.getD k [] = m[k] from getD_of hmk] at h1
      rw [h1]
      exact (least_loc.take (by omega) fun a ha x hx => ((hm k _ hmk).2.2 a ha).2 x hx).symm
  have := key m.length (Nat.le_refl _)
  rwa [List.take_of_length_le (by omega), List.take_of_length_le (Nat.le_refl _)] at this
theorem nums_is {m : Memo} {cs : List (List Int)} {mix : List Int} (hm : Good m) : ∀ i < m.length, gI (numbersL cs mix m) i = leastW cs mix (numbersL cs mix m) (m.getD i []) := fun i hi => by
  have hmk : m[i]? = some m[i] := List.getElem?_eq_getElem hi
  rw [show m.getD i [] = m[i] from getD_of hmk]
  exact gI_of (dp_get least_loc hmk fun a ha x hx => ((hm i _ hmk).2.2 a ha).2 x hx)
theorem map_toI (ns : List Int) : (ns.map PyData.int).map toI = ns := by
  rw [List.map_map]
  exact List.map_id'' (fun _ => rfl) ns
theorem isNums_eq {m : Memo} {cs : List (List Int)} {mix : List Int} (hm : Good m) (v : D) : isNums m cs mix v = true ↔ v = tupI (numbersL cs mix m) := by
  constructor
  · intro h
    cases v with
    | tuple ds =>
      rw [isNums, Bool.and_eq_true, Bool.and_eq_true, decide_eq_true_eq] at h
      obtain ⟨h1, h2, h3⟩ := h
      have h3 := List.all_eq_true.mp h3
      have e := isInt_map h2
      have := nums_of (ns := ds.map toI) hm (by simpa using h1) fun i hi => of_decide_eq_true (h3 i (List.mem_range.mpr hi))
      rw [← this]
      unfold tupI
      rw [← e]
    | _ => cases h
  · rintro rfl
    unfold tupI
    rw [isNums, Bool.and_eq_true, Bool.and_eq_true, decide_eq_true_eq]
    refine ⟨by simp [dp_len], List.all_eq_true.mpr fun d hd => ?_, List.all_eq_true.mpr fun i hi => ?_⟩
    · obtain ⟨z, _, rfl⟩ := List.mem_map.mp hd
      rfl
    · rw [map_toI, decide_eq_true_eq]
      exact nums_is hm i (List.mem_range.mp hi)
def spAreNums : DSp := fun as pn P => ∃ (m : Memo) (cs : List (List Int)) (mix : List Int) (v : D) (size : Nat), as = [.val (memoD m), .val (cornersD cs), .val (tupI mix), .val v] ∧ Good m ∧ m.length ≤ 1000 ∧ CostOk m cs mix size ∧ P (.bool (isNums m cs mix v)) pn
def spNumbers : DSp := fun as pn P => ∃ (m : Memo) (cs : List (List Int)) (mix : List Int) (size : Nat), as = [.val (memoD m), .val (cornersD cs), .val (tupI mix)] ∧ Good m ∧ m.length ≤ 1000 ∧ CostOk m cs mix size ∧ P (tupI (numbersL cs mix m)) pn
end Dk
set_option Elab.async false
set_option linter.all false
set_option maxRecDepth 100000
set_option maxHeartbeats 2000000
/-! De: what is shown: memos, tuples of ints; bounds of the least costs. -/
namespace Dk
open PySem PySem.Spec PyProof.Rows L2
theorem alt_ok {size i : Nat} {a : Alt} (hs : size ≤ 4) (hi : i ≤ 1000) (h : FineA size i a) : pl (altD a) = true ∧ wgt (altD a) ≤ 110 ∧ (altD a).depth ≤ 2 := by
  obtain ⟨⟨h1, h2⟩, h3, h4⟩ := h
  have p1 : plA (a.1.map PyData.int) = true := plA_map fun x hx => pl_int (by have := h2 x hx; omega)
  have p2 : plA (needsL a.2) = true := plA_map fun x hx => pl_int (by have := h4 x hx; omega)
  have w1 := wgts_map (g := PyData.int) (c := 13) (xs := a.1) fun x hx => wgt_small (by have := h2 x hx; omega)
  have w2 := wgts_map (g := fun n : Nat => PyData.int (n : Int)) (c := 13) (xs := a.2) fun x hx => wgt_small (by have := h4 x hx; omega)
  have w2 : wgts (needsL a.2) ≤ a.2.length * (13 + 2) := w2
  have d1 : PyData.depthAll (a.1.map PyData.int) ≤ 0 := depth_map fun _ _ => Nat.le_refl _
  have d2 : PyData.depthAll (needsL a.2) ≤ 0 := depth_map (g := fun n : Nat => PyData.int (n : Int)) fun _ _ => Nat.le_refl _
  unfold altD
  refine ⟨?_, ?_, ?_⟩
  · rw [pl_tuple, plA, plA, plA, pl_tuple, pl_tuple, p1, p2]; rfl
  · rw [wgt_tuple, wgts_cons, wgts_cons, wgts_nil, wgt_tuple, wgt_tuple]; omega
  · rw [depth_tuple, PyData.depthAll, PyData.depthAll, PyData.depthAll, depth_tuple, depth_tuple]; omega
theorem node_ok {size i most : Nat} {n : List Alt} (hs : size ≤ 4) (hi : i ≤ 1000) (hm : most ≤ 30) (hl : n.length ≤ most) (h : ∀ a ∈ n, FineA size i a) : pl (nodeD n) = true ∧ wgt (nodeD n) ≤ 3400 ∧ (nodeD n).depth ≤ 3 := by
  unfold nodeD
  refine ⟨?_, ?_, ?_⟩
  · rw [pl_tuple]; exact plA_map fun a ha => (alt_ok hs hi (h a ha)).1
  · have := wgts_map (g := altD) (c := 110) (xs := n) fun a ha => (alt_ok hs hi (h a ha)).2.1
    rw [wgt_tuple]; omega
  · rw [depth_tuple]
    have := depth_map (g := altD) (c := 2) (xs := n) fun a ha => (alt_ok hs hi (h a ha)).2.2
    omega
theorem memo_ok {size most : Nat} {B : Int} {m : Memo} (hs : size ≤ 4) (hm : most ≤ 30) (hl : m.length ≤ 24) (hF : Fine size most B m) : pl (memoD m) = true ∧ wgt (memoD m) ≤ 82000 ∧ (memoD m).depth ≤ 4 := by
  have h : ∀ n ∈ m, pl (nodeD n) = true ∧ wgt (nodeD n) ≤ 3400 ∧ (nodeD n).depth ≤ 3 := fun n hn => by
    obtain ⟨i, hi, e⟩ := List.mem_iff_getElem.mp hn
    have h1 := hF.node i n (by rw [List.getElem?_eq_getElem hi, e])
    exact node_ok (i := i) hs (by omega) hm h1.2.1 fun a ha => h1.2.2 a ha
  unfold memoD
  refine ⟨?_, ?_, ?_⟩
  · rw [pl_tuple]; exact plA_map fun n hn => (h n hn).1
  · have := wgts_map (g := nodeD) (c := 3400) (xs := m) fun n hn => (h n hn).2.1
    rw [wgt_tuple]; omega
  · rw [depth_tuple]
    have := depth_map (g := nodeD) (c := 3) (xs := m) fun n hn => (h n hn).2.2
    omega
abbrev VwA (d : D) : Prop := Vw 4000000 60 d
/-- the memo and one value, shown together -/
theorem pair_ok {d e : D} (hp : pl e = true) (hw : wgt e ≤ 1000000) (hd : e.depth ≤ 60) (h : VwA d) : reprOk (.tuple [e, d]) := by
  have := Vw.around (xs := [e]) (ys := []) h (by rw [plA, plA, hp]; rfl) rfl (by rw [PyData.depthAll, PyData.depthAll]; omega) (by rw [PyData.depthAll]; omega)
  exact this.repr (by rw [wgts_cons, wgts_nil]; omega) (by omega)
theorem VwA.repr {d : D} (h : VwA d) : reprOk d := Vw.repr h (by omega) (by omega)
theorem wgts_ints {ns : List Int} (h : ∀ x ∈ ns, x.natAbs < 10 ^ 201) : wgts (ns.map PyData.int) ≤ ns.length * 204 := wgts_map (c := 202) fun x hx => wgt_int (by decide) (h x hx)
theorem pl_ints {ns : List Int} (h : ∀ x ∈ ns, x.natAbs < 10 ^ 201) : plA (ns.map PyData.int) = true := plA_map fun x hx => pl_big (h x hx)
theorem depth_ints {ns : List Int} : PyData.depthAll (ns.map PyData.int) ≤ 0 := depth_map fun _ _ => Nat.le_refl _
theorem vw_tupI {ns : List Int} (h : ∀ x ∈ ns, x.natAbs < 10 ^ 201) (hl : ns.length ≤ 900) : VwA (tupI ns) := by
  have w := wgts_ints h
  refine Vw.ofPl (by unfold tupI; rw [pl_tuple]; exact pl_ints h) ?_ ?_
  · unfold tupI; rw [wgt_tuple]; omega
  · unfold tupI; rw [depth_tuple]; have := depth_ints (ns := ns); omega
theorem vw_lstI {ns : List Int} (h : ∀ x ∈ ns, x.natAbs < 10 ^ 201) (hl : ns.length ≤ 900) : VwA (.list (ns.map .int)) := by
  have w := wgts_ints h
  refine (Vw.list (pl_ints h)).mono ?_ ?_
  · rw [wgt_list]; omega
  · rw [depth_list]; have := depth_ints (ns := ns); omega
theorem sm_tupI {ns : List Int} (h : ∀ x ∈ ns, x.natAbs < bigN) (hl : ns.length ≤ 900) : sm (tupI ns) = true := by
  unfold tupI
  rw [sm_tup]
  refine ⟨by simpa using hl, smA_iff.mpr fun d hd => ?_⟩
  obtain ⟨x, hx, rfl⟩ := List.mem_map.mp hd
  rw [sm, decide_eq_true_eq]
  exact h x hx
theorem wgt_tupI {ns : List Int} (h : ∀ x ∈ ns, x.natAbs < 10 ^ 201) : wgt (tupI ns) ≤ ns.length * 204 + 3 := by
  have := wgts_ints h
  unfold tupI
  rw [wgt_tuple]
  omega
theorem depth_tupI {ns : List Int} : (tupI ns).depth ≤ 1 := by
  unfold tupI
  rw [depth_tuple]
  have := depth_ints (ns := ns)
  omega
theorem lt_bigN {x : Int} (h0 : 0 ≤ x) (h : x ≤ 10 ^ 199) : x.natAbs < bigN := by
  refine Nat.lt_of_le_of_lt (m := 10 ^ 199) ?_ (by decide +kernel)
  have : ((10 ^ 199 : Nat) : Int) = 10 ^ 199 := by decide +kernel
  omega
theorem lt_201 {x : Int} (h : x.natAbs < bigN) : x.natAbs < 10 ^ 201 := Nat.lt_trans h bigN_lt
/-! ### the least costs are bounded -/
theorem sN_le {cs : List Int} {b : Int} : ∀ {ns : List Nat}, (∀ x ∈ ns, 0 ≤ gI cs x ∧ gI cs x ≤ b) → 0 ≤ sN cs ns ∧ sN cs ns ≤ ns.length * b
  | [], _ => by simp [sN]
  | n :: ns, h => by
    have h1 := h n (by simp)
    have h2 := sN_le (cs := cs) (ns := ns) fun x hx => h x (by simp [hx])
    have e : sN cs (n :: ns) = gI cs n + sN cs ns := by simp [sN]
    have e2 : ((n :: ns).length : Int) * b = (ns.length : Int) * b + b := by
      rw [List.length_cons, Int.natCast_add, Int.add_mul]
      simp
    rw [e, e2]
    omega
theorem minI_some {xs : List Int} (h : xs ≠ []) : ∃ z, minI xs = some z := by
  cases xs with
  | nil => exact absurd rfl h
  | cons a r => exact ⟨_, rfl⟩
theorem leastW_mem {cs : List (List Int)} {mix nums : List Int} {n : List Alt} (h : n ≠ []) : ∃ a ∈ n, leastW cs mix nums n = dotI (ownC cs a.1) mix + sN nums a.2 := by
  obtain ⟨z, hz⟩ := minI_some (xs := waysL cs mix nums n) (by simpa [waysL] using h)
  obtain ⟨a, ha, e⟩ := List.mem_map.mp (minI_spec hz).1
  exact ⟨a, ha, by unfold leastW; rw [hz]; exact e.symm⟩
theorem numbers_bd {m : Memo} {cs : List (List Int)} {mix : List Int} {W : Int} (hm : Good m) (hW : 0 ≤ W) (h : ∀ n ∈ m, ∀ a ∈ n, 0 ≤ dotI (ownC cs a.1) mix ∧ dotI (ownC cs a.1) mix ≤ W) : ∀ c ∈ numbersL cs mix m, 0 ≤ c ∧ c ≤ W * 2 ^ m.length - W := by
  have key : ∀ k, k ≤ m.length → ∀ c ∈ numbersL cs mix (m.take k), 0 ≤ c ∧ c ≤ W * 2 ^ k - W := by
    intro k
    induction k with
    | zero => intro _ c hc; simp [dp] at hc
    | succ k ih =>
      intro hk c hc
      have hb := ih (by omega)
      have hmk : m[k]? = some m[k] := List.getElem?_eq_getElem (by omega)
      have e2 : W * 2 ^ (k + 1) = W * 2 ^ k + W * 2 ^ k := by rw [Int.pow_succ, ← Int.mul_assoc]; omega
      have hp : W ≤ W * 2 ^ k := by
        have h0 : (0 : Int) < 2 ^ k := Int.pow_pos (by decide)
        have : (1 : Int) ≤ 2 ^ k := by omega
        have := Int.mul_le_mul_of_nonneg_left this hW
        omega
      rw [take_snocA hmk, show numbersL cs mix (m.take k ++ [m[k]]) = numbersL cs mix (m.take k) ++ [leastW cs mix (numbersL cs mix (m.take k)) m[k]] from dp_snoc _ _] at hc
      rcases List.mem_append.mp hc with hc | hc
      · have := hb c hc
        omega
      · rw [List.mem_singleton.mp hc]
        obtain ⟨g0, g1, g2⟩ := hm k _ hmk
        obtain ⟨a, ha, e⟩ := leastW_mem (cs := cs) (mix := mix) (nums := numbersL cs mix (m.take k)) g0
        rw [e]
        have h1 := h _ (List.getElem_mem (by omega)) a ha
        have hl : (numbersL cs mix (m.take k)).length = k := by rw [dp_len, List.length_take]; omega
        have h2 := sN_le (cs := numbersL cs mix (m.take k)) (b := W * 2 ^ k - W) (ns := a.2) fun x hx => by
          have hx2 := (g2 a ha).2 x hx
          have eg : gI (numbersL cs mix (m.take k)) x = (numbersL cs mix (m.take k))[x]'(by omega) := gI_of (List.getElem?_eq_getElem (by omega))
          rw [eg]
          exact hb _ (List.getElem_mem _)
        have h3 := (g2 a ha).1
        have h4 : ((a.2.length : Nat) : Int) * (W * 2 ^ k - W) ≤ 2 * (W * 2 ^ k - W) := Int.mul_le_mul_of_nonneg_right (by omega) (by omega)
        omega
  have := key m.length (Nat.le_refl _)
  rwa [List.take_length] at this
end Dk
set_option Elab.async false
set_option linter.all false
set_option maxRecDepth 100000
set_option maxHeartbeats 2000000
/-! Dx1: more of Python over data: a module's int, xs.index, xs.extend, xs.insert, x //= e. -/
namespace Dk
open PySem PySem.Spec PyProof.Rows L2
variable {S : Type} [StK S]
section
variable {X : Cx} {e a b : Expr} {t u : (OW S)} {te : (DW S)} {pos p1 : Pos} {k : Nat}
/-- a module's int -/
theorem ce_globI {x : Str} {i : Int} {pos : Pos} (C : ∃ t, X.mg x = some (.int i t)) (hg : Gl X x := by rfl) (hdb : (x == ("__debug__" : Str)) = false := by decide) : CE (S := S) X (.Name x pos) (dC (.int i)) := by
  obtain ⟨t, hm⟩ := C
  exact ce_glob (v := .int i) hm ⟨t, rfl⟩ (fun _ => DR.int_.mpr rfl) hg hdb
/-! ### xs.index(y) -/
def isLst : Option D → Bool
  | some (.list _) => true
  | _ => false
theorem isLst_some {o : Option D} (h : isLst o = true) : ∃ ds, o = some (.list ds) := by
  unfold isLst at h
  split at h
  · exact ⟨_, rfl⟩
  · cases h
def idxD : D → D → Option Rs
  | .list ds, d => if (SeqAt.shaped (.list ds) && SeqAt.shaped d) = true then (ds.findIdx? fun z => PyData.eqv z d).map fun j => ri (j : Nat) else none
  | _, _ => none
def dIdx (t u : (OW S)) : (DW S) := fun ρ P => t ρ fun k1 ρ1 => isLst (k1.rd ρ1) = true ∧ u ρ1 fun k2 ρ2 => gets (k1.rd ρ2) fun d1 => gets (k2.rd ρ2) fun d2 => gets (idxD d1 d2) fun r => P r ρ2
theorem findIdx_first {α : Type} {p : α → Bool} : ∀ {xs : List α} {j : Nat}, xs.findIdx? p = some j → ∃ z, xs[j]? = some z ∧ p z = true ∧ ∀ (m : Nat) (y : α), m < j → xs[m]? = some y → p y = false
  | [], j, h => by simp at h
  | x :: xs, j, h => by
    rw [List.findIdx?_cons] at h
    by_cases hp : p x = true
    · rw [if_pos hp] at h
      cases h
      exact ⟨x, rfl, hp, fun m y hm => by omega⟩
    · rw [if_neg hp] at h
      obtain ⟨i, h1, rfl⟩ := Option.map_eq_some_iff.mp h
      obtain ⟨z, h2, h3, h4⟩ := findIdx_first h1
      refine ⟨z, by simpa using h2, h3, fun m y hm hy => ?_⟩
      cases m with
      | zero => simp at hy; subst hy; simpa using hp
      | succ m => exact h4 m y (by omega) (by simpa using hy)
theorem ce_index {apos : Pos} (hx : XO X k) (ha : CO (S := S) X a t) (hb : CO (S := S) X b u)
    (hbase : attributeBase a "index" X.env (eval a X.env) = eval a X.env := by rfl)
    (hfew : ((backTo pos (starEach [b] X.env)).all (fun x => !x.1) && (backToKw pos (keywordEach [] X.env)).all (fun x => x.1.isSome) && decide ([b].length + ([] : List Keyword).length + (if ([] : List Keyword).isEmpty then 0 else 1) < 30)) = true := by rfl)
    (hline : (apos.endLine == pos.line) = true := by rfl) (hs : starEach [b] X.env = (false, eval b X.env) :: starEach [] X.env := by rfl) (hplain : (backTo pos (starEach [] X.env)).any (·.1) = false := by rfl) :
    CE (S := S) X (.Call (.Attribute a "index" apos) [b] [] pos) (dIdx t u) :=
  pe_mono (pe_bm PySem.F.plainAttrs_list PySem.F.slot_list_index PySem.F.type_list_index (mt_indexD (X := X) (by have := hx.room.un; omega)) ha (pa_cons hb pa_nil hs) hbase hfew hline hs hplain) fun σ H Q h => by
    obtain ⟨B, pa, τ, F, ρ, θ, P, R, hl, h, q⟩ := h
    refine ⟨B, pa, τ, F, ρ, θ, _, R, hl, h, fun k1 ρ1 v1 H1 F1 h1 hl1 R1 s1 => ?_⟩
    obtain ⟨hL, h1⟩ := h1
    have hτ : τ.length = θ.length := by have := R1.pop.len; simp at this; omega
    obtain ⟨ds0, eL⟩ := isLst_some hL
    have rd0 := read_at (τ := τ ++ [some v1]) (θ := θ ++ [k1.sl]) (by rw [← List.append_assoc, ← List.append_assoc]; exact R1) hl1 τ.length (app_last _ _) (getN hτ.symm) s1 eL
    obtain ⟨a0, vs0, rfl, hA, _⟩ := rd0.list R1.fh
    refine ⟨.inl ⟨rfl, vs0, .inl (.inl hA)⟩, ?_⟩
    refine ⟨B, pa, τ ++ [some (.ref a0)], F1, ρ1, θ ++ [k1.sl], _, by rw [← List.append_assoc, ← List.append_assoc]; exact R1, hl1, h1, fun k2 ρ2 v2 H2 F2 h2 hl2 R2 s2 => ?_⟩
    obtain ⟨d1, e1, h2⟩ := gets_elim h2
    obtain ⟨d2, e2, h2⟩ := gets_elim h2
    obtain ⟨r, e3, h2⟩ := gets_elim h2
    have R2' : Rel X.K B pa (σ ++ (τ ++ [some (.ref a0)] ++ [some v2])) H2 F2 (ρ2.sl ++ (θ ++ [k1.sl] ++ [k2.sl])) ρ2.pn := by
      simpa only [List.append_assoc] using R2
    have rd1 := read_at (k := k1) R2' hl2 τ.length (by simp) (by rw [hτ]; simp) s1 e1
    have rd2 := read_at (k := k2) R2' hl2 (τ.length + 1) (by simp) (by rw [hτ]; simp) s2 e2
    cases d1 with
    | list ds =>
      obtain ⟨hc, e3⟩ : (SeqAt.shaped (.list ds) && SeqAt.shaped d2) = true ∧ ((ds.findIdx? fun z => PyData.eqv z d2).map fun j => ri (j : Nat)) = some r := by
        have e4 : (if (SeqAt.shaped (.list ds) && SeqAt.shaped d2) = true then (ds.findIdx? fun z => PyData.eqv z d2).map fun j => ri (j : Nat) else none) = some r := e3
        split at e4
        · exact ⟨by assumption, e4⟩
        · cases e4
      obtain ⟨j, ej, er⟩ := Option.map_eq_some_iff.mp e3
      subst er
      rw [Bool.and_eq_true] at hc
      obtain ⟨z, h3, h4, h5⟩ := findIdx_first ej
      refine ⟨a0, v2, d2, ds, j, z, rfl, rfl, rd1.dp R2.fh hc.1, rd2.dp R2.fh hc.2, hc.1, hc.2, h3, h4, h5, ?_⟩
      have R3 : Rel X.K B pa (σ ++ τ) H2 F2 (ρ2.sl ++ θ) ρ2.pn := by
        have := R2.pop
        rw [← List.append_assoc, ← List.append_assoc] at this
        exact this.pop
      exact q _ _ _ _ _ h2 hl2 (R3.pushVal (d := .int (j : Nat)) (DR.int_.mpr rfl)) (fun i e => by cases e)
    | _ => cases e3
end
@[simp↓] theorem z_dIdx {s0 : Sl} {l0 : List Sl} {pn : S} {ta tb : (OW S)} {P : Rs → (En S) → Prop} : dIdx ta tb ⟨s0 :: l0, pn⟩ P = ta ⟨s0 :: l0, pn⟩ fun k1 ρ1 => isLst (k1.rd ρ1) = true ∧ tb ρ1 fun k2 ρ2 => gets (k1.rd ρ2) fun d1 => gets (k2.rd ρ2) fun d2 => gets (idxD d1 d2) fun r => P r ρ2 := rfl
end Dk
set_option Elab.async false
set_option linter.all false
set_option maxRecDepth 100000
set_option maxHeartbeats 2000000
/-! Dq: plans as a type: their data, amounts, costs, all plans of a node. -/
namespace Dk
open PySem PySem.Spec PyProof.Rows L2
inductive Pl where
  | mk (k : Nat) (ps : List Pl)
mutual
def planD : Pl → D
  | .mk k ps => .tuple [.int (k : Int), .tuple (planDs ps)]
def planDs : List Pl → List D
  | [] => []
  | p :: ps => planD p :: planDs ps
end
theorem planDs_map : ∀ ps : List Pl, planDs ps = ps.map planD
  | [] => rfl
  | p :: ps => by rw [planDs, planDs_map ps]; rfl
theorem planD_mk {k : Nat} {ps : List Pl} : planD (.mk k ps) = .tuple [.int (k : Int), .tuple (ps.map planD)] := by rw [planD, planDs_map]
mutual
theorem planD_inj : ∀ (p q : Pl), planD p = planD q → p = q
  | .mk k ps, .mk j qs, h => by
    rw [planD, planD] at h
    injection h with h
    injection h with h1 h2
    injection h1 with h1
    injection h2 with h2 _
    injection h2 with h2
    have e1 : k = j := by omega
    rw [e1, planDs_inj ps qs h2]
theorem planDs_inj : ∀ (ps qs : List Pl), planDs ps = planDs qs → ps = qs
  | [], [], _ => rfl
  | [], _ :: _, h => by rw [planDs, planDs] at h; cases h
  | _ :: _, [], h => by rw [planDs, planDs] at h; cases h
  | p :: ps, q :: qs, h => by
    rw [planDs, planDs] at h
    injection h with h1 h2
    rw [planD_inj p q h1, planDs_inj ps qs h2]
end
/-- a plan of a node -/
inductive PlOk (m : Memo) : Nat → Pl → Prop
  | mk {node k : Nat} {n : List Alt} {a : Alt} {ps : List Pl} : m[node]? = some n → n[k]? = some a → ps.length = a.2.length → (∀ (j nd : Nat) (p : Pl), a.2[j]? = some nd → ps[j]? = some p → PlOk m nd p) → PlOk m node (.mk k ps)
def addV (xs ys : List Int) : List Int := (xs.zip ys).map fun p => p.1 + p.2
theorem addV_len {xs ys : List Int} (h : xs.length = ys.length) : (addV xs ys).length = xs.length := by simp [addV, h]
def altAt (m : Memo) (node k : Nat) : Alt := (m.getD node []).getD k ([], [])
theorem altAt_of {m : Memo} {node k : Nat} {n : List Alt} {a : Alt} (h1 : m[node]? = some n) (h2 : n[k]? = some a) : altAt m node k = a := by
  unfold altAt
  rw [show m.getD node [] = n from getD_of h1]
  exact getD_of h2
mutual
def amP (m : Memo) : Nat → Pl → List Int
  | node, .mk k ps => amPs m (altAt m node k).1 (altAt m node k).2 ps
def amPs (m : Memo) : List Int → List Nat → List Pl → List Int
  | acc, nd :: ns, p :: ps => amPs m (addV acc (amP m nd p)) ns ps
  | acc, _, _ => acc
end
/-! all plans, in the law's order -/
def rowsL (som : Nat → List Pl) (needs : List Nat) : List (List Pl) := needs.foldl (fun rows nd => rows.flatMap fun row => (som nd).map fun p => row ++ [p]) [[]]
def enumA (n : List Alt) : List (Nat × Alt) := n.zipIdx.map fun q => (q.2, q.1)
def plansL (m : Memo) : Nat → Nat → List Pl
  | 0, _ => []
  | f + 1, node => (enumA (m.getD node [])).flatMap fun q => (rowsL (plansL m f) q.2.2).map (Pl.mk q.1)
theorem enumA_mem {n : List Alt} {q : Nat × Alt} : q ∈ enumA n ↔ n[q.1]? = some q.2 := by
  unfold enumA
  rw [List.mem_map]
  constructor
  · rintro ⟨⟨a, i⟩, h, rfl⟩
    have := List.mem_zipIdx_iff_getElem?.mp h
    simpa using this
  · intro h
    exact ⟨(q.2, q.1), List.mem_zipIdx_iff_getElem?.mpr (by simpa using h), rfl⟩
theorem rows_mem {som : Nat → List Pl} : ∀ (needs : List Nat) (row : List Pl), row ∈ rowsL som needs ↔ row.length = needs.length ∧ ∀ (j nd : Nat) (p : Pl), needs[j]? = some nd → row[j]? = some p → p ∈ som nd := by
  intro needs
  have key : ∀ (needs : List Nat) (pre : List Nat) (rows : List (List Pl)), (∀ row, row ∈ rows ↔ row.length = pre.length ∧ ∀ (j nd : Nat) (p : Pl), pre[j]? = some nd → row[j]? = some p → p ∈ som nd) →
      ∀ row, row ∈ needs.foldl (fun rows nd => rows.flatMap fun row => (som nd).map fun p => row ++ [p]) rows ↔ row.length = (pre ++ needs).length ∧ ∀ (j nd : Nat) (p : Pl), (pre ++ needs)[j]? = some nd → row[j]? = some p → p ∈ som nd := by
    intro needs
    induction needs with
    | nil => intro pre rows h row; simpa using h row
    | cons nd needs ih =>
      intro pre rows h row
      rw [List.foldl_cons, show pre ++ nd :: needs = (pre ++ [nd]) ++ needs by simp]
      refine ih (pre ++ [nd]) _ (fun row => ?_) row
      rw [List.mem_flatMap]
      constructor
      · rintro ⟨r, hr, hm⟩
        obtain ⟨p, hp, rfl⟩ := List.mem_map.mp hm
        obtain ⟨h1, h2⟩ := (h r).mp hr
        refine ⟨by simp [h1], fun j nd' p' e1 e2 => ?_⟩
        by_cases hj : j < pre.length
        · rw [List.getElem?_append_left hj] at e1
          rw [List.getElem?_append_left (by omega)] at e2
          exact h2 j nd' p' e1 e2
        · by_cases hj2 : j = pre.length
          · subst hj2
            simp at e1
            rw [← h1] at e2
            simp at e2
            subst e1 e2
            exact hp
          · rw [List.getElem?_eq_none (by simp; omega)] at e1
            cases e1
      · rintro ⟨h1, h2⟩
        rw [List.length_append, List.length_singleton] at h1
        have hne : row ≠ [] := fun e => by rw [e] at h1; simp at h1
        refine ⟨row.dropLast, (h _).mpr ⟨by rw [List.length_dropLast]; omega, fun j nd' p' e1 e2 => ?_⟩, List.mem_map.mpr ⟨row.getLast hne, ?_, List.dropLast_concat_getLast hne⟩⟩
        · have hj := (List.getElem?_eq_some_iff.mp e1).1
          refine h2 j nd' p' (by rw [List.getElem?_append_left hj]; exact e1) ?_
          rw [List.getElem?_dropLast] at e2
          split at e2
          · exact e2
          · cases e2
        · refine h2 pre.length nd _ (by simp) ?_
          rw [List.getLast_eq_getElem, ← List.getElem?_eq_getElem]
          congr 1
          omega
  have := key needs [] [[]] (fun row => by
    constructor
    · intro h
      rw [List.mem_singleton.mp h]
      exact ⟨rfl, fun j nd p e => by simp at e⟩
    · rintro ⟨h, _⟩
      rw [List.length_eq_zero_iff.mp h]
      simp)
  exact fun row => by simpa [rowsL] using this row
theorem plans_mem {m : Memo} (hm : Good m) : ∀ (f node : Nat) (p : Pl), node < f → (p ∈ plansL m f node ↔ PlOk m node p) := by
  intro f
  induction f with
  | zero => intro node p h; omega
  | succ f ih =>
    intro node p hlt
    rw [plansL, List.mem_flatMap]
    constructor
    · rintro ⟨⟨k, a⟩, hq, hp⟩
      obtain ⟨row, hr, rfl⟩ := List.mem_map.mp hp
      have h1 := enumA_mem.mp hq
      obtain ⟨h2, h3⟩ := (rows_mem _ _).mp hr
      cases hn : m[node]? with
      | none => rw [List.getD_eq_getElem?_getD, hn] at h1; simp at h1
      | some n =>
        rw [show m.getD node [] = n from getD_of hn] at h1
        have hg := (hm node n hn).2.2 a (List.mem_of_getElem? h1)
        exact .mk hn h1 h2 fun j nd p e1 e2 => (ih nd p (by have := hg.2 nd (List.mem_of_getElem? e1); omega)).mp (h3 j nd p e1 e2)
    · rintro (@⟨_, k, n, a, ps, hn, ha, hl, hps⟩)
      have hg := (hm node n hn).2.2 a (List.mem_of_getElem? ha)
      exact ⟨(k, a), enumA_mem.mpr (by rw [show m.getD node [] = n from getD_of hn]; exact ha), List.mem_map.mpr ⟨ps, (rows_mem _ _).mpr ⟨hl, fun j nd p e1 e2 => (ih nd p (by have := hg.2 nd (List.mem_of_getElem? e1); omega)).mpr (hps j nd p e1 e2)⟩, rfl⟩⟩
/-! how many -/
theorem rows_len {som : Nat → List Pl} {c : List Int} : ∀ (needs : List Nat), (∀ x ∈ needs, (((som x).length : Nat) : Int) = gI c x) → (((rowsL som needs).length : Nat) : Int) = pN c needs := by
  intro needs h
  have key : ∀ (needs : List Nat) (rows : List (List Pl)) (z : Int), (∀ x ∈ needs, (((som x).length : Nat) : Int) = gI c x) → ((rows.length : Nat) : Int) = z →
      (((needs.foldl (fun rows nd => rows.flatMap fun row => (som nd).map fun p => row ++ [p]) rows).length : Nat) : Int) = (needs.map (gI c)).foldl (· * ·) z := by
    intro needs
    induction needs with
    | nil => intro rows z _ h; exact h
    | cons nd needs ih =>
      intro rows z h hz
      rw [List.foldl_cons, List.map_cons, List.foldl_cons]
      refine ih _ _ (fun x hx => h x (by simp [hx])) ?_
      have e : ∀ rows : List (List Pl), (rows.flatMap fun row => (som nd).map fun p => row ++ [p]).length = rows.length * (som nd).length := fun rows => by
        induction rows with
        | nil => simp
        | cons r rows ih => rw [List.flatMap_cons, List.length_append, ih, List.length_map, List.length_cons, Nat.succ_mul]; omega
      rw [e, Int.natCast_mul, hz, h nd (by simp)]
  exact key needs [[]] 1 h rfl
theorem plans_len {m : Memo} (hm : Good m) : ∀ (f node : Nat), node < f → node < m.length → (((plansL m f node).length : Nat) : Int) = gI (cnts m) node := by
  intro f
  induction f with
  | zero => intro node h; omega
  | succ f ih =>
    intro node hlt hlm
    have hn : m[node]? = some m[node] := List.getElem?_eq_getElem hlm
    obtain ⟨g0, g1, g2⟩ := hm node _ hn
    rw [show gI (cnts m) node = cntN (cnts m) m[node] from gI_of (dp_get cnt_loc hn fun a ha x hx => (g2 a ha).2 x hx), plansL, show m.getD node [] = m[node] from getD_of hn]
    have key : ∀ (l : List (Nat × Alt)), (∀ q ∈ l, q.2 ∈ m[node]) → (((l.flatMap fun q => (rowsL (plansL m f) q.2.2).map (Pl.mk q.1)).length : Nat) : Int) = (l.map fun q => pN (cnts m) q.2.2).sum := fun l hl => by
      induction l with
      | nil => simp
      | cons q l ihl =>
        have hq := (g2 q.2 (hl q (by simp))).2
        rw [List.flatMap_cons, List.length_append, Int.natCast_add, List.length_map, ihl fun q hq => hl q (by simp [hq]), List.map_cons, List.sum_cons, rows_len _ fun x hx => ih x (by have := hq x hx; omega) (by have := hq x hx; omega)]
    rw [key _ fun q hq => List.mem_of_getElem? (enumA_mem.mp hq)]
    unfold cntN enumA
    rw [List.map_map]
    have e : ∀ (n : List Alt) (i : Nat), ((n.zipIdx i).map ((fun q : Nat × Alt => pN (cnts m) q.2.2) ∘ fun q : Alt × Nat => (q.2, q.1))) = n.map fun a => pN (cnts m) a.2 := by
      intro n
      induction n with
      | nil => intro i; rfl
      | cons a n ih => intro i; rw [List.zipIdx_cons, List.map_cons, ih, List.map_cons]; rfl
    rw [e]
end Dk
set_option Elab.async false
set_option linter.all false
set_option maxRecDepth 100000
set_option maxHeartbeats 2000000
/-! Dq2: costs of plans at a mix; the least ones. -/
namespace Dk
open PySem PySem.Spec PyProof.Rows L2
theorem dot_addL : ∀ {xs ys zs : List Int}, xs.length = ys.length → dotI (addV xs ys) zs = dotI xs zs + dotI ys zs
  | [], [], zs, _ => by simp [dotI, addV]
  | [], _ :: _, _, h => by simp at h
  | _ :: _, [], _, h => by simp at h
  | x :: xs, y :: ys, [], _ => by simp [dotI]
  | x :: xs, y :: ys, z :: zs, h => by
    have ih := dot_addL (xs := xs) (ys := ys) (zs := zs) (by simpa using h)
    have e1 : dotI (addV (x :: xs) (y :: ys)) (z :: zs) = (x + y) * z + dotI (addV xs ys) zs := by simp [dotI, addV]
    have e2 : dotI (x :: xs) (z :: zs) = x * z + dotI xs zs := by simp [dotI]
    have e3 : dotI (y :: ys) (z :: zs) = y * z + dotI ys zs := by simp [dotI]
    rw [e1, e2, e3, ih, Int.add_mul]
    omega
theorem dot_addR {xs ys zs : List Int} (h : xs.length = ys.length) : dotI zs (addV xs ys) = dotI zs xs + dotI zs ys := by
  rw [dot_comm, dot_addL h, dot_comm xs, dot_comm ys]
theorem own_add {cs : List (List Int)} {a b : List Int} (h : a.length = b.length) : ownC cs (addV a b) = addV (ownC cs a) (ownC cs b) := by
  unfold ownC
  induction cs with
  | nil => rfl
  | cons c cs ih =>
    rw [List.map_cons, List.map_cons, List.map_cons, ih, dot_addR h]
    simp [addV]
def priceV (cs : List (List Int)) (mix am : List Int) : Int := dotI (ownC cs am) mix
theorem price_add {cs : List (List Int)} {mix a b : List Int} (h : a.length = b.length) : priceV cs mix (addV a b) = priceV cs mix a + priceV cs mix b := by
  unfold priceV
  rw [own_add h, dot_addL (by simp [ownC])]
section
variable {m : Memo} {size : Nat}
/-- all amounts of one size -/
def SizeOk (m : Memo) (size : Nat) : Prop := ∀ n ∈ m, ∀ a ∈ n, a.1.length = size
theorem amPs_len (hs : SizeOk m size) : ∀ (ns : List Nat) (ps : List Pl) (acc : List Int), acc.length = size → (∀ (j nd : Nat) (p : Pl), ns[j]? = some nd → ps[j]? = some p → (amP m nd p).length = size) → (amPs m acc ns ps).length = size
  | [], ps, acc, h, _ => by rw [amPs]; exact h; all_goals simp
  | nd :: ns, [], acc, h, _ => by rw [amPs]; exact h; all_goals simp
  | nd :: ns, p :: ps, acc, h, hp => by
    rw [amPs]
    have h0 := hp 0 nd p rfl rfl
    exact amPs_len hs ns ps _ (by rw [addV_len (by omega)]; exact h) fun j nd' p' e1 e2 => hp (j + 1) nd' p' (by simpa using e1) (by simpa using e2)
theorem amP_mk {node k : Nat} {n : List Alt} {a : Alt} {ps : List Pl} (hn : m[node]? = some n) (ha : n[k]? = some a) : amP m node (.mk k ps) = amPs m a.1 a.2 ps := by
  rw [amP, altAt_of hn ha]
theorem amP_len (hs : SizeOk m size) {node : Nat} {p : Pl} (h : PlOk m node p) : (amP m node p).length = size := by
  induction h with
  | mk hn ha hl _ ih =>
    rw [amP_mk hn ha]
    exact amPs_len hs _ _ _ (hs _ (List.mem_of_getElem? hn) _ (List.mem_of_getElem? ha)) ih
variable {cs : List (List Int)} {mix : List Int}
def vP (m : Memo) (cs : List (List Int)) (mix : List Int) (node : Nat) (p : Pl) : Int := priceV cs mix (amP m node p)
theorem price_amPs (hs : SizeOk m size) : ∀ (ns : List Nat) (ps : List Pl) (acc : List Int), acc.length = size → ps.length = ns.length → (∀ (j nd : Nat) (p : Pl), ns[j]? = some nd → ps[j]? = some p → (amP m nd p).length = size) →
    priceV cs mix (amPs m acc ns ps) = priceV cs mix acc + (List.zipWith (vP m cs mix) ns ps).sum
  | [], [], acc, h, _, _ => by rw [amPs]; simp; all_goals simp
  | [], _ :: _, _, _, h, _ => by simp at h
  | _ :: _, [], _, _, h, _ => by simp at h
  | nd :: ns, p :: ps, acc, h, hl, hp => by
    have h0 := hp 0 nd p rfl rfl
    rw [amPs, price_amPs hs ns ps _ (by rw [addV_len (by omega)]; exact h) (by simpa using hl) (fun j nd' p' e1 e2 => hp (j + 1) nd' p' (by simpa using e1) (by simpa using e2)), price_add (by omega)]
    simp [vP]
    omega
theorem vP_mk (hs : SizeOk m size) {node k : Nat} {n : List Alt} {a : Alt} {ps : List Pl} (hn : m[node]? = some n) (ha : n[k]? = some a) (hl : ps.length = a.2.length) (hp : ∀ (j nd : Nat) (p : Pl), a.2[j]? = some nd → ps[j]? = some p → PlOk m nd p) :
    vP m cs mix node (.mk k ps) = priceV cs mix a.1 + (List.zipWith (vP m cs mix) a.2 ps).sum := by
  unfold vP
  rw [amP_mk hn ha, price_amPs hs _ _ _ (hs _ (List.mem_of_getElem? hn) _ (List.mem_of_getElem? ha)) hl fun j nd p e1 e2 => amP_len hs (hp j nd p e1 e2)]
  rfl
theorem sN_zip {nums : List Int} {v : Nat → Pl → Int} : ∀ (ns : List Nat) (ps : List Pl), ps.length = ns.length → (∀ (j nd : Nat) (p : Pl), ns[j]? = some nd → ps[j]? = some p → gI nums nd ≤ v nd p) → sN nums ns ≤ (List.zipWith v ns ps).sum
  | [], [], _, _ => by simp [sN]
  | [], _ :: _, h, _ => by simp at h
  | _ :: _, [], h, _ => by simp at h
  | nd :: ns, p :: ps, h, hp => by
    have h0 := hp 0 nd p rfl rfl
    have ih := sN_zip (v := v) ns ps (by simpa using h) fun j nd' p' e1 e2 => hp (j + 1) nd' p' (by simpa using e1) (by simpa using e2)
    have e : sN nums (nd :: ns) = gI nums nd + sN nums ns := by simp [sN]
    rw [e, List.zipWith_cons_cons, List.sum_cons]
    omega
theorem sN_zipE {nums : List Int} {v : Nat → Pl → Int} {b : Nat → Pl} : ∀ (ns : List Nat), (∀ x ∈ ns, v x (b x) = gI nums x) → (List.zipWith v ns (ns.map b)).sum = sN nums ns
  | [], _ => by simp [sN]
  | nd :: ns, h => by
    have ih := sN_zipE (v := v) (b := b) (nums := nums) ns fun x hx => h x (by simp [hx])
    have e : sN nums (nd :: ns) = gI nums nd + sN nums ns := by simp [sN]
    rw [List.map_cons, List.zipWith_cons_cons, List.sum_cons, ih, e, h nd (by simp)]
theorem ways_le {nums : List Int} {n : List Alt} {a : Alt} (ha : a ∈ n) : leastW cs mix nums n ≤ priceV cs mix a.1 + sN nums a.2 := by
  have hne : waysL cs mix nums n ≠ [] := by
    intro e
    unfold waysL at e
    rw [List.map_eq_nil_iff] at e
    rw [e] at ha
    cases ha
  obtain ⟨z, hz⟩ := minI_some hne
  unfold leastW
  rw [hz]
  exact (minI_spec hz).2 _ (List.mem_map.mpr ⟨a, ha, rfl⟩)
theorem nums_at (hm : Good m) {i : Nat} {n : List Alt} (h : m[i]? = some n) : gI (numbersL cs mix m) i = leastW cs mix (numbersL cs mix m) n :=
  gI_of (dp_get least_loc h fun a ha x hx => ((hm i _ h).2.2 a ha).2 x hx)
/-- no plan costs less -/
theorem nums_le (hm : Good m) (hs : SizeOk m size) {node : Nat} {p : Pl} (h : PlOk m node p) : gI (numbersL cs mix m) node ≤ vP m cs mix node p := by
  induction h with
  | mk hn ha hl hp ih =>
    rw [vP_mk hs hn ha hl hp, nums_at hm hn]
    have h1 := ways_le (cs := cs) (mix := mix) (nums := numbersL cs mix m) (List.mem_of_getElem? ha)
    have h2 := sN_zip (nums := numbersL cs mix m) (v := vP m cs mix) _ _ hl ih
    omega
/-! the cheapest plans -/
def leastIx (cs : List (List Int)) (mix nums : List Int) (n : List Alt) : Nat := ((waysL cs mix nums n).findIdx? fun z => z == leastW cs mix nums n).getD 0
def bestG (cs : List (List Int)) (mix nums : List Int) (acc : List Pl) (n : List Alt) : Pl := .mk (leastIx cs mix nums n) ((n.getD (leastIx cs mix nums n) ([], [])).2.map fun x => acc.getD x (.mk 0 []))
abbrev bests (cs : List (List Int)) (mix : List Int) (m : Memo) : List Pl := dp (bestG cs mix (numbersL cs mix m)) m
theorem leastIx_ok {nums : List Int} {n : List Alt} (h : n ≠ []) : (waysL cs mix nums n).findIdx? (fun z => z == leastW cs mix nums n) = some (leastIx cs mix nums n) ∧ ∃ a, n[leastIx cs mix nums n]? = some a ∧ priceV cs mix a.1 + sN nums a.2 = leastW cs mix nums n := by
  cases e : (waysL cs mix nums n).findIdx? fun z => z == leastW cs mix nums n with
  | none =>
    obtain ⟨a, ha, e1⟩ := leastW_mem (cs := cs) (mix := mix) (nums := nums) h
    rw [List.findIdx?_eq_none_iff] at e
    have := e (dotI (ownC cs a.1) mix + sN nums a.2) (List.mem_map.mpr ⟨a, ha, rfl⟩)
    rw [e1] at this
    simp at this
  | some j =>
    have ej : leastIx cs mix nums n = j := by unfold leastIx; rw [e]; rfl
    rw [ej]
    obtain ⟨z, h1, h2, _⟩ := findIdx_first e
    unfold waysL at h1
    rw [List.getElem?_map] at h1
    obtain ⟨a, h3, h4⟩ := Option.map_eq_some_iff.mp h1
    exact ⟨rfl, a, h3, by rw [← eq_of_beq h2, ← h4]; rfl⟩
theorem best_loc {nums : List Int} : Loc (bestG cs mix nums) := fun acc bcc n h => by
  unfold bestG
  congr 1
  refine List.map_congr_left fun x hx => ?_
  cases e : n[leastIx cs mix nums n]? with
  | none =>
    rw [List.getD_eq_getElem?_getD, e] at hx
    cases hx
  | some a =>
    rw [getD_of e] at hx
    exact getD_app (h a (List.mem_of_getElem? e) x hx)
theorem best_ok (hm : Good m) (hs : SizeOk m size) : ∀ (i : Nat), i < m.length → PlOk m i ((bests cs mix m).getD i (.mk 0 [])) ∧ vP m cs mix i ((bests cs mix m).getD i (.mk 0 [])) = gI (numbersL cs mix m) i := by
  intro i
  induction i using Nat.strongRecOn with
  | _ i ih =>
    intro hi
    have hn : m[i]? = some m[i] := List.getElem?_eq_getElem hi
    obtain ⟨g0, g1, g2⟩ := hm i _ hn
    obtain ⟨_, a, ha, he⟩ := leastIx_ok (cs := cs) (mix := mix) (nums := numbersL cs mix m) g0
    have hb : (bests cs mix m).getD i (.mk 0 []) = .mk (leastIx cs mix (numbersL cs mix m) m[i]) (a.2.map fun x => (bests cs mix m).getD x (.mk 0 [])) := by
      rw [getD_of (dp_get best_loc hn fun a ha x hx => (g2 a ha).2 x hx)]
      show Pl.mk (leastIx cs mix (numbersL cs mix m) m[i]) ((m[i].getD (leastIx cs mix (numbersL cs mix m) m[i]) ([], [])).2.map fun x => (bests cs mix m).getD x (.mk 0 [])) = _
      rw [getD_of ha]
    have hx := (g2 a (List.mem_of_getElem? ha)).2
    have hp : ∀ (j nd : Nat) (p : Pl), a.2[j]? = some nd → (a.2.map fun x => (bests cs mix m).getD x (.mk 0 []))[j]? = some p → PlOk m nd p := fun j nd p e1 e2 => by
      rw [List.getElem?_map, e1] at e2
      cases e2
      have := hx nd (List.mem_of_getElem? e1)
      exact (ih nd this (by omega)).1
    rw [hb]
    refine ⟨.mk hn ha (by simp) hp, ?_⟩
    rw [vP_mk hs hn ha (by simp) hp, nums_at hm hn, sN_zipE (nums := numbersL cs mix m) (b := fun x => (bests cs mix m).getD x (.mk 0 [])) _ fun x hx' => (ih x (hx x hx') (by have := hx x hx'; omega)).2]
    exact he
end
end Dk
set_option Elab.async false
set_option linter.all false
set_option maxRecDepth 100000
set_option maxHeartbeats 2000000
/-! Dq3: promises over plans; alike in kind and worth. -/
namespace Dk
open PySem PySem.Spec PyProof.Rows L2
/-! ### alike -/
noncomputable def sameD (a b : D) : Bool := @decide (a = b) (Classical.propDecidable _)
theorem sameD_iff {a b : D} : sameD a b = true ↔ a = b := by
  unfold sameD
  exact @decide_eq_true_iff (a = b) (Classical.propDecidable _)
theorem sameD_self (a : D) : sameD a a = true := sameD_iff.mpr rfl
theorem sameD_no {a b : D} (h : a ≠ b) : sameD a b = false := by
  cases e : sameD a b with
  | false => rfl
  | true => exact absurd (sameD_iff.mp e) h
mutual
def noDi : D → Bool
  | .dict _ => false
  | .list ds => noDiA ds
  | .tuple ds => noDiA ds
  | _ => true
def noDiA : List D → Bool
  | [] => true
  | d :: ds => noDi d && noDiA ds
end
theorem noDi_list {ds : List D} : noDi (.list ds) = noDiA ds := by rw [noDi]
theorem noDi_tuple {ds : List D} : noDi (.tuple ds) = noDiA ds := by rw [noDi]
theorem noDiA_iff : ∀ {ds : List D}, noDiA ds = true ↔ ∀ d ∈ ds, noDi d = true
  | [] => by simp [noDiA]
  | d :: ds => by
    rw [noDiA, Bool.and_eq_true, noDiA_iff]
    simp
def spSame : Nat → DSp
  | 0 => fun _ _ _ => False
  | f + 1 => fun as pn P => ∃ a b : D, as = [.val a, .val b] ∧ noDi a = true ∧ noDi b = true ∧ a.depth ≤ f ∧ P (.bool (sameD a b)) pn
theorem zip_all_eq : ∀ {xs ys : List D}, xs.length = ys.length → ((((xs.zip ys).map fun p => sameD p.1 p.2).all id) = true ↔ xs = ys)
  | [], [], _ => by simp
  | [], _ :: _, h => by simp at h
  | _ :: _, [], h => by simp at h
  | x :: xs, y :: ys, h => by
    have ih := zip_all_eq (xs := xs) (ys := ys) (by simpa using h)
    rw [List.zip_cons_cons, List.map_cons, List.all_cons, Bool.and_eq_true, ih]
    simp [sameD_iff]
theorem pairL_zip : ∀ xs ys : List D, pairL xs ys = (xs.zip ys).map fun p => PyData.tuple [p.1, p.2]
  | [], _ => rfl
  | _ :: _, [] => rfl
  | x :: xs, y :: ys => by
    have := pairL_zip xs ys
    unfold pairL at this ⊢
    rw [List.zipWith_cons_cons, this, List.zip_cons_cons, List.map_cons]
/-! ### all plans -/
def rowD (row : List Pl) : D := .tuple (row.map planD)
def CntS (m : Memo) : Prop := ∀ i, i < m.length → gI (cnts m) i ≤ 900
def spPlans (f : Nat) : DSp := fun as pn P => ∃ (m : Memo) (node : Nat), as = [.val (memoD m), .val (.int node)] ∧ Good m ∧ (∀ n ∈ m, n.length ≤ 20) ∧ CntS m ∧ node < f ∧ node < m.length ∧ P (.list ((plansL m f node).map planD)) pn
theorem rows_snoc {som : Nat → List Pl} {ns : List Nat} {x : Nat} : rowsL som (ns ++ [x]) = (rowsL som ns).flatMap fun row => (som x).map fun p => row ++ [p] := by simp [rowsL, List.foldl_append]
theorem flat_len {rows : List (List Pl)} {som : List Pl} : (rows.flatMap fun row => som.map fun p => row ++ [p]).length = rows.length * som.length := by
  induction rows with
  | nil => simp
  | cons r rows ih => rw [List.flatMap_cons, List.length_append, ih, List.length_map, List.length_cons, Nat.succ_mul]; omega
theorem rows_bd {som : Nat → List Pl} : ∀ (ns : List Nat), (∀ x ∈ ns, (som x).length ≤ 900) → (rowsL som ns).length ≤ 900 ^ ns.length
  | [], _ => by simp [rowsL]
  | n :: ns, h => by
    have key : ∀ k, k ≤ (n :: ns).length → (rowsL som ((n :: ns).take k)).length ≤ 900 ^ k := by
      intro k
      induction k with
      | zero => intro _; simp [rowsL]
      | succ k ih =>
        intro hk
        have e : (n :: ns)[k]? = some ((n :: ns)[k]) := List.getElem?_eq_getElem (by omega)
        rw [take_snocA e, rows_snoc, flat_len, Nat.pow_succ]
        exact Nat.mul_le_mul (ih (by omega)) (h _ (List.getElem_mem _))
    have := key (n :: ns).length (Nat.le_refl _)
    rwa [List.take_length] at this
theorem plans_le {m : Memo} (hm : Good m) (hc : CntS m) {f node : Nat} (h1 : node < f) (h2 : node < m.length) : (plansL m f node).length ≤ 900 := by
  have := plans_len hm f node h1 h2
  have := hc node h2
  omega
theorem flat_bd {α β : Type} {l : List α} {g : α → List β} {b : Nat} (h : ∀ x ∈ l, (g x).length ≤ b) : (l.flatMap g).length ≤ l.length * b := by
  induction l with
  | nil => simp
  | cons x l ih =>
    rw [List.flatMap_cons, List.length_append, List.length_cons, Nat.succ_mul]
    have h1 := h x (by simp)
    have h2 := ih fun y hy => h y (by simp [hy])
    omega
/-! ### amounts, costs of a plan -/
def spAmP (f : Nat) : DSp := fun as pn P => ∃ (m : Memo) (node : Nat) (p : Pl), as = [.val (memoD m), .val (.int node), .val (planD p)] ∧ Good m ∧ PlOk m node p ∧ node < f ∧ P (tupI (amP m node p)) pn
theorem amPs_nil {m : Memo} {acc : List Int} : amPs m acc [] [] = acc := by rw [amPs]; all_goals simp
theorem amPs_snoc {m : Memo} : ∀ (ns : List Nat) (ps : List Pl) (acc : List Int) (x : Nat) (p : Pl), ps.length = ns.length → amPs m acc (ns ++ [x]) (ps ++ [p]) = addV (amPs m acc ns ps) (amP m x p)
  | [], [], acc, x, p, _ => by rw [List.nil_append, List.nil_append, amPs, amPs_nil, amPs_nil]
  | [], _ :: _, _, _, _, h => by simp at h
  | _ :: _, [], _, _, _, h => by simp at h
  | n :: ns, q :: ps, acc, x, p, h => by
    rw [List.cons_append, List.cons_append, amPs, amPs_snoc ns ps _ x p (by simpa using h), amPs]
theorem addV_bd {xs ys : List Int} {A B : Int} (hx : ∀ x ∈ xs, 0 ≤ x ∧ x ≤ A) (hy : ∀ y ∈ ys, 0 ≤ y ∧ y ≤ B) : ∀ z ∈ addV xs ys, 0 ≤ z ∧ z ≤ A + B := fun z hz => by
  obtain ⟨p, hp, rfl⟩ := List.mem_map.mp hz
  obtain ⟨h1, h2⟩ := List.of_mem_zip hp
  have := hx _ h1
  have := hy _ h2
  omega
theorem amPs_bd {m : Memo} {B : Int} : ∀ (ns : List Nat) (ps : List Pl) (acc : List Int) (A : Int), ns.length ≤ 2 → 0 ≤ B → (∀ x ∈ acc, 0 ≤ x ∧ x ≤ A) → (∀ (j nd : Nat) (p : Pl), ns[j]? = some nd → ps[j]? = some p → ∀ x ∈ amP m nd p, 0 ≤ x ∧ x ≤ B) → ∀ x ∈ amPs m acc ns ps, 0 ≤ x ∧ x ≤ A + ns.length * B
  | [], ps, acc, A, _, _, h, _ => by rw [amPs]; simpa using h; all_goals simp
  | n :: ns, [], acc, A, _, hB, h, _ => by
    rw [amPs]
    · intro x hx
      have := h x hx
      have : 0 ≤ ((n :: ns).length : Int) * B := Int.mul_nonneg (by omega) hB
      omega
    all_goals simp
  | n :: ns, p :: ps, acc, A, hl, hB, h, hp => by
    intro x hx
    rw [amPs] at hx
    have := amPs_bd ns ps _ (A + B) (by simp at hl; omega) hB (addV_bd h (hp 0 n p rfl rfl)) (fun j nd' p' e1 e2 => hp (j + 1) nd' p' (by simpa using e1) (by simpa using e2)) x hx
    have e2 : ((n :: ns).length : Int) * B = (ns.length : Int) * B + B := by
      rw [List.length_cons, Int.natCast_add, Int.add_mul]
      simp
    omega
theorem amP_bd {m : Memo} (hm : Good m) (ha : ∀ n ∈ m, ∀ a ∈ n, ∀ x ∈ a.1, 0 ≤ x ∧ x ≤ 1000000) {node : Nat} {p : Pl} (h : PlOk m node p) : ∀ x ∈ amP m node p, 0 ≤ x ∧ x ≤ 1000000 * 2 ^ (node + 1) - 1000000 := by
  induction h with
  | @mk node k n a ps hn hk hl hp ih =>
    rw [amP_mk hn hk]
    obtain ⟨g1, g2⟩ := (hm node n hn).2.2 a (List.mem_of_getElem? hk)
    have pw : ∀ i : Nat, (0 : Int) < 2 ^ i := fun i => Int.pow_pos (by decide)
    have mono : ∀ (i d : Nat), (2 : Int) ^ i ≤ 2 ^ (i + d) := fun i d => by
      induction d with
      | zero => exact Int.le_refl _
      | succ d ihd => rw [← Nat.add_assoc, Int.pow_succ]; have := pw (i + d); omega
    intro x hx
    have := amPs_bd (m := m) (B := 1000000 * 2 ^ node - 1000000) a.2 ps a.1 1000000 g1 (by have := pw node; omega) (ha n (List.mem_of_getElem? hn) a (List.mem_of_getElem? hk)) (fun j nd p e1 e2 y hy => by
      have h1 := ih j nd p e1 e2 y hy
      have h2 := g2 nd (List.mem_of_getElem? e1)
      have h3 := mono (nd + 1) (node - (nd + 1))
      rw [show nd + 1 + (node - (nd + 1)) = node by omega] at h3
      omega) x hx
    have h2 : ((a.2.length : Nat) : Int) * (1000000 * 2 ^ node - 1000000) ≤ 2 * (1000000 * 2 ^ node - 1000000) := Int.mul_le_mul_of_nonneg_right (by omega) (by have := pw node; omega)
    rw [Int.pow_succ]
    omega
/-- what plans' costs want: the memo, the corners -/
structure PriceOk (m : Memo) (cs : List (List Int)) (size : Nat) : Prop where
  am : ∀ n ∈ m, ∀ a ∈ n, a.1.length = size ∧ ∀ x ∈ a.1, 0 ≤ x ∧ x ≤ 1000000
  ml : m.length ≤ 24
  sz : size ≤ 100
  co : ∀ c ∈ cs, c.length = size ∧ ∀ x ∈ c, 0 ≤ x ∧ x ≤ 1000
theorem PriceOk.sizes {m : Memo} {cs : List (List Int)} {size : Nat} (K : PriceOk m cs size) : SizeOk m size := fun n hn a ha => (K.am n hn a ha).1
theorem PlOk.lt {m : Memo} {node : Nat} {p : Pl} (h : PlOk m node p) : node < m.length := by
  cases h with
  | mk hn _ _ _ => exact (List.getElem?_eq_some_iff.mp hn).1
theorem PriceOk.ap {m : Memo} {cs : List (List Int)} {size : Nat} (K : PriceOk m cs size) (hm : Good m) {node : Nat} {p : Pl} (h : PlOk m node p) : ∀ x ∈ amP m node p, 0 ≤ x ∧ x ≤ 34000000000000 := fun x hx => by
  have h1 := amP_bd hm (fun n hn a ha => (K.am n hn a ha).2) h x hx
  have h2 : (2 : Int) ^ (node + 1) ≤ 2 ^ 24 := by
    have h3 := Nat.pow_le_pow_right (n := 2) (by decide) (show node + 1 ≤ 24 by have := h.lt; have := K.ml; omega)
    have e : ∀ k : Nat, ((2 ^ k : Nat) : Int) = 2 ^ k := fun k => by simp
    rw [← e, ← e]
    exact Int.ofNat_le.mpr h3
  have e3 : (2 : Int) ^ 24 = 16777216 := by decide
  omega
def spPCost : DSp := fun as pn P => ∃ (m : Memo) (cs : List (List Int)) (node size : Nat) (p : Pl), as = [.val (memoD m), .val (cornersD cs), .val (.int node), .val (planD p)] ∧ Good m ∧ PlOk m node p ∧ PriceOk m cs size ∧ P (tupI (ownC cs (amP m node p))) pn
def allD' (m : Memo) (cs : List (List Int)) (node : Nat) (p : Pl) : D := .tuple [planD p, tupI (ownC cs (amP m node p))]
def spAll (F : Nat) : DSp := fun as pn P => ∃ (m : Memo) (cs : List (List Int)) (node size : Nat), as = [.val (memoD m), .val (cornersD cs), .val (.int node)] ∧ Good m ∧ (∀ n ∈ m, n.length ≤ 20) ∧ CntS m ∧ node < F ∧ node < m.length ∧ PriceOk m cs size ∧ P (.list ((plansL m F node).map (allD' m cs node))) pn
/-! ### the cheapest plan -/
def lastP (cs : List (List Int)) (mix : List Int) (m : Memo) : Pl := (bests cs mix m).getD (m.length - 1) (.mk 0 [])
def spCheap : DSp := fun as pn P => ∃ (m : Memo) (cs : List (List Int)) (mix : List Int) (size : Nat), as = [.val (memoD m), .val (cornersD cs), .val (tupI mix)] ∧ Good m ∧ m ≠ [] ∧ m.length ≤ 1000 ∧ CostOk m cs mix size ∧ P (.tuple [planD (lastP cs mix m), tupI (numbersL cs mix m)]) pn
theorem canLay_ints : ∀ ns : List Int, PyData.canLayAll0 (ns.map .int) = true
  | [] => rfl
  | n :: ns => by rw [List.map_cons, PyData.canLayAll0, canLay_ints ns]; rfl
theorem shaped_ints (ns : List Int) : SeqAt.shaped (.list (ns.map .int)) = true := by
  unfold SeqAt.shaped
  rw [show (PyData.list (ns.map .int)).canLay0 = PyData.canLayAll0 (ns.map .int) by rw [PyData.canLay0], canLay_ints, depth_list]
  have := depth_ints (ns := ns)
  simp
  omega
theorem shaped_int (n : Int) : SeqAt.shaped (.int n) = true := rfl
theorem ways_pre {m : Memo} {cs : List (List Int)} {mix : List Int} {i : Nat} {n : List Alt} (hi : i ≤ m.length) (h : ∀ a ∈ n, ∀ x ∈ a.2, x < i) : waysL cs mix (numbersL cs mix (m.take i)) n = waysL cs mix (numbersL cs mix m) n := by
  have e : numbersL cs mix m = numbersL cs mix (m.take i) ++ (numbersL cs mix m).drop i := by
    have := List.take_append_drop i (numbersL cs mix m)
    rw [show (numbersL cs mix m).take i = numbersL cs mix (m.take i) from dp_take m i] at this
    exact this.symm
  rw [e, ways_app]
  intro a ha x hx
  rw [dp_len, List.length_take]
  have := h a ha x hx
  omega
end Dk
set_option Elab.async false
set_option linter.all false
set_option maxRecDepth 100000
set_option maxHeartbeats 2000000
/-! Dq4: what the laws over plans share. -/
namespace Dk
open PySem PySem.Spec PyProof.Rows L2
theorem pl_self {d : D} (p : pl d = true) (h : d.depth ≤ 64) : eqOk d d = true ∧ PyData.eqv d d = true :=
  ⟨pl_eqOk p h p h, SeqAt.eqv_refl d (pl_all p).2.2.2⟩
mutual
theorem planD_pl {m : Memo} (hm : Good m) : ∀ (p : Pl) (node : Nat), PlOk m node p → pl (planD p) = true ∧ (planD p).depth ≤ 2 * (node + 1) ∧ noDi (planD p) = true
  | .mk k ps, node, h => by
    cases h with
    | mk hn hk hl hp =>
      rename_i n a
      obtain ⟨g0, g1, g2⟩ := hm node n hn
      have hkl := (List.getElem?_eq_some_iff.mp hk).1
      have hb := (g2 a (List.mem_of_getElem? hk)).2
      obtain ⟨h1, h2, h3⟩ := planDs_pl hm ps node (fun p hpm => by
        obtain ⟨j, hj, e⟩ := List.mem_iff_getElem.mp hpm
        refine ⟨a.2[j]'(by omega), hb _ (List.getElem_mem _), hp j _ p (List.getElem?_eq_getElem (by omega)) ?_⟩
        rw [List.getElem?_eq_getElem hj, e])
      rw [planD]
      refine ⟨?_, ?_, ?_⟩
      · rw [pl_tuple, plA, plA, plA, pl_tuple, h1, pl_int (by omega)]; rfl
      · rw [depth_tuple, PyData.depthAll, PyData.depthAll, PyData.depthAll, depth_tuple]
        simp only [PyData.depth]
        omega
      · rw [noDi_tuple, noDiA, noDiA, noDiA, noDi_tuple, h3]; rfl
theorem planDs_pl {m : Memo} (hm : Good m) : ∀ (ps : List Pl) (node : Nat), (∀ p ∈ ps, ∃ nd, nd < node ∧ PlOk m nd p) → plA (planDs ps) = true ∧ PyData.depthAll (planDs ps) ≤ 2 * node ∧ noDiA (planDs ps) = true
  | [], _, _ => ⟨rfl, by simp [planDs, PyData.depthAll], rfl⟩
  | p :: ps, node, h => by
    obtain ⟨nd, h1, h2⟩ := h p (by simp)
    obtain ⟨k1, k2, k3⟩ := planD_pl hm p nd h2
    obtain ⟨j1, j2, j3⟩ := planDs_pl hm ps node fun q hq => h q (by simp [hq])
    rw [planDs]
    refine ⟨by rw [plA, k1, j1]; rfl, by rw [PyData.depthAll]; omega, by rw [noDiA, k3, j3]; rfl⟩
end
theorem tupI_pl {ns : List Int} (h : ∀ x ∈ ns, x.natAbs < 10 ^ 201) : pl (tupI ns) = true ∧ (tupI ns).depth ≤ 1 ∧ noDi (tupI ns) = true := by
  refine ⟨by unfold tupI; rw [pl_tuple]; exact pl_ints h, depth_tupI, ?_⟩
  unfold tupI
  rw [noDi_tuple, noDiA_iff]
  intro d hd
  obtain ⟨x, _, rfl⟩ := List.mem_map.mp hd
  rfl
theorem corners_ok {size : Nat} {cs : List (List Int)} (hs : size ≤ 4) (C : Cor size cs) : pl (cornersD cs) = true ∧ wgt (cornersD cs) ≤ 300 ∧ (cornersD cs).depth ≤ 2 := by
  have h : ∀ c ∈ cs, pl (tupI c) = true ∧ wgt (tupI c) ≤ 63 ∧ (tupI c).depth ≤ 1 := fun c hc => by
    obtain ⟨h1, h2⟩ := C.c c hc
    refine ⟨(tupI_pl fun x hx => lt201 (h2 x hx).1 (by have := (h2 x hx).2; omega)).1, ?_, depth_tupI⟩
    have := wgts_map (g := PyData.int) (c := 13) (xs := c) fun x hx => wgt_small (by have := h2 x hx; omega)
    unfold tupI
    rw [wgt_tuple]
    omega
  unfold cornersD
  have c1 := C.n1
  refine ⟨?_, ?_, ?_⟩
  · rw [pl_tuple]; exact plA_map fun c hc => (h c hc).1
  · have := wgts_map (g := tupI) (c := 63) (xs := cs) fun c hc => (h c hc).2.1
    rw [wgt_tuple]; omega
  · rw [depth_tuple]
    have := depth_map (g := tupI) (c := 1) (xs := cs) fun c hc => (h c hc).2.2
    omega
/-- items kept by a test, each giving one -/
theorem lcW_fm {S : Type} [StK S] {α : Type} {c : Sc} {items : List D} {g : (GW S)} {tt : (BW S)} {te : (OW S)} {vs : List Nat} {Q : List D → (En S) → Prop} {ρ0 : (En S)} {ts : List α} (e : α → D) (t : α → Bool) (f : α → D) (hi : items = ts.map e) (hc : c.items ρ0 = some items)
    (step : ∀ x ∈ ts, ∀ N : Option D → (En S) → Prop, (t x = true → N (some (f x)) ρ0) → (t x = false → N none ρ0) → g (e x) ρ0 fun ρ1 => tt ρ1 fun b ρ2 => if b = true then te ρ2 fun k ρ3 => gets k.valD fun y => N (some y) ⟨wipeD ρ3.sl vs, ρ3.pn⟩ else N none ⟨wipeD ρ2.sl vs, ρ2.pn⟩)
    (q : Q ((ts.filter t).map f) ρ0) : lcW c items g tt te vs Q items [] ρ0 := by
  refine lcW_inv (fun i acc ρ => ρ = ρ0 ∧ acc = ((ts.take i).filter t).map f) ?_ ?_ ?_ ⟨rfl, rfl⟩
  · rintro i acc ρ ⟨rfl, _⟩
    exact hc
  · rintro i d acc ρ h ⟨rfl, rfl⟩ N hN
    rw [hi, List.getElem?_map] at h
    obtain ⟨x, h1, rfl⟩ := Option.map_eq_some_iff.mp h
    have := step x (List.mem_of_getElem? h1) (fun o ρ' => match o with | some y => N (((ts.take i).filter t).map f ++ [y]) ρ' | none => N (((ts.take i).filter t).map f) ρ')
      (fun ht => hN _ _ ⟨rfl, by rw [take_snocA h1, List.filter_append]; simp [ht]⟩) (fun ht => hN _ _ ⟨rfl, by rw [take_snocA h1, List.filter_append]; simp [ht]⟩)
    exact this
  · rintro acc ρ ⟨rfl, rfl⟩
    rw [hi, List.length_map, List.take_length]
    exact q
theorem minI_eq {xs : List Int} {z : Int} (h1 : z ∈ xs) (h2 : ∀ x ∈ xs, z ≤ x) : minI xs = some z := by
  obtain ⟨y, hy⟩ := minI_some (xs := xs) (fun e => by rw [e] at h1; cases h1)
  have := minI_spec hy
  have a := this.2 z h1
  have b := h2 y this.1
  rw [hy]
  congr 1
  omega
theorem maxI_eq {xs : List Int} {z : Int} (h1 : z ∈ xs) (h2 : ∀ x ∈ xs, x ≤ z) : maxI xs = some z := by
  cases e : maxI xs with
  | none =>
    cases xs with
    | nil => cases h1
    | cons a r => cases e
  | some y =>
    have := maxI_spec e
    have a := this.2 z h1
    have b := h2 y this.1
    congr 1
    omega
theorem min_plans {m : Memo} {size f node : Nat} {cs : List (List Int)} {mix : List Int} (hm : Good m) (hs : SizeOk m size) (hf : node < f) (hl : node < m.length) : minI ((plansL m f node).map (vP m cs mix node)) = some (gI (numbersL cs mix m) node) := by
  obtain ⟨h1, h2⟩ := best_ok (cs := cs) (mix := mix) hm hs node hl
  refine minI_eq (List.mem_map.mpr ⟨_, (plans_mem hm f node _ hf).mpr h1, h2⟩) fun x hx => ?_
  obtain ⟨p, hp, rfl⟩ := List.mem_map.mp hx
  exact nums_le hm hs ((plans_mem hm f node p hf).mp hp)
theorem range_gI (ns : List Int) : (List.range ns.length).map (gI ns) = ns := by
  apply List.ext_getElem
  · simp
  · intro i h1 h2
    rw [List.getElem_map, List.getElem_range]
    exact gI_of (List.getElem?_eq_getElem h2)
theorem atLast {xs : List D} {d : D} (h0 : xs ≠ []) (h : xs[xs.length - 1]? = some d) (k : D → Prop) : gets (atI xs (-1)) k = k d := by
  have hpos := List.length_pos_iff.mpr h0
  have e : atI xs (-1) = some d := by
    unfold atI ixN
    rw [if_neg (by decide), if_pos (by omega), Option.bind_some, show ((-1 : Int) + ((xs.length : Nat) : Int)).toNat = xs.length - 1 by omega, h]
  rw [e]
  rfl
theorem gIat {nums : List Int} {x : Nat} (h : x < nums.length) : (nums.map PyData.int)[x]? = some (.int (gI nums x)) := by
  rw [List.getElem?_map, List.getElem?_eq_getElem h]
  exact congrArg some (congrArg PyData.int (gI_of (List.getElem?_eq_getElem h)).symm)
theorem eqv_txt {x y : Str} : PyData.eqv (.str x) (.str y) = decide (x = y) := by
  rw [Bool.eq_iff_iff]
  simp [PyData.eqv]
end Dk
set_option Elab.async false
set_option linter.all false
set_option maxRecDepth 100000
set_option maxHeartbeats 2000000
/-! Dx6: tuple(range(x)), list(range(x)). -/
namespace Dk
open PySem PySem.Spec PyProof.Rows L2
variable {S : Type} [StK S]
theorem drs_rg {K : Fg} {F : Hp} {lo : Int} : ∀ {xs : List Nat}, DRs K F (xs.map fun i => PyData.int (lo + (i : Nat))) (xs.map fun i => V.int (lo + (i : Nat)))
  | [] => .nil
  | x :: xs => .cons (DR.int_.mpr rfl) drs_rg
section
variable {X : Cx} {a : Expr} {t : (OW S)} {pos p p1 pos1 : Pos} {k : Nat}
def dRg1 (own : Bool) (t : (OW S)) : (DW S) := fun ρ P => t ρ fun k ρ1 => gets ((k.rd ρ1).bind D.int?) fun j => (-(2 ^ 62) ≤ j ∧ j ≤ 16777216) ∧ P (if own then .own (rangeD 0 j.toNat) else .val (.tuple (rangeD 0 j.toNat))) ρ1
theorem rg_step {own : Bool} {σ : L2.St} {H : Hp} {Q : VK} (h : liftO X.K (tmpD (dRg1 own t)) σ H Q) :
    liftO X.K t σ H fun x H1 => ∃ n, x = .int n ∧ RgOk 0 n ∧ ∀ q, H1 q = none → Q (.ref q) (upd H1 q (if own then .lst (rgV 0 n) else .tup (rgV 0 n))) := by
  obtain ⟨B, pa, τ, F, ρ, θ, P, R, hl, h, q⟩ := toE h
  refine ⟨B, pa, τ, F, ρ, θ, _, R, hl, h, fun k1 ρ1 v H1 F1 h1 hl1 R1 s1 => ?_⟩
  obtain ⟨j, e, ⟨b1, b2⟩, h1⟩ := gets_elim h1
  obtain ⟨d, e1, e2⟩ := Option.bind_eq_some_iff.mp e
  have e3 := D.int?_some e2
  subst e3
  have hτ : τ.length = θ.length := by have := R1.pop.len; simp at this; omega
  have R2 : Rel X.K B pa (σ ++ (τ ++ [some v])) H1 F1 (ρ1.sl ++ (θ ++ [k1.sl])) ρ1.pn := by simpa only [List.append_assoc] using R1
  have rd := read_at R2 hl1 τ.length (app_last _ _) (getN hτ.symm) s1 e1
  have hsz : sizeLine = 16777216 := sizeLine_eq
  refine ⟨j, by rw [rd.int], ⟨by omega, by omega, b1, by omega, by omega⟩, fun l hn => ?_⟩
  have hd : DRs X.K F1 (rangeD 0 j.toNat) (rgV 0 j) := by unfold rangeD rgV; rw [Int.sub_zero]; exact drs_rg
  have hlen : (rgV 0 j).length ≤ sizeLine := by rw [rgV_length]; omega
  have R3 := R1.pop
  cases own with
  | true =>
    have g : Gives X.K F1 H1 (.own (rangeD 0 j.toNat)) Q := R3.gives fun v' H' F' R' => q _ _ v' H' F' h1 hl1 R'
    exact g _ l hd hlen hn
  | false =>
    have g : Gives X.K F1 H1 (.val (.tuple (rangeD 0 j.toNat))) Q := R3.gives fun v' H' F' R' => q _ _ v' H' F' h1 hl1 R'
    exact g.2.1 _ _ l rfl hd hlen hn
theorem ce_tupleRg1 (hx : XO X k) (ht : X.mg "tuple" = none) (hr : X.mg "range" = none) (ha : CO (S := S) X a t) (hg : Gl X "tuple" := by rfl) (hg2 : Gl X "range" := by rfl)
    (hs : starEach [a] X.env = (false, eval a X.env) :: starEach [] X.env := by rfl) (hs2 : starEach [Expr.Call (.Name "range" p) [a] [] pos1] X.env = (false, eval (Expr.Call (.Name "range" p) [a] [] pos1) X.env) :: starEach [] X.env := by rfl) :
    CE (S := S) X (.Call (.Name "tuple" p1) [Expr.Call (.Name "range" p) [a] [] pos1] [] pos) (dRg1 false t) :=
  pe_mono (pe_tupRg hx.calm hg ht (prg_1 hg2 hr ha hs) hs2) fun σ H Q h => rg_step h
theorem ce_listRg1 (hx : XO X k) (ht : X.mg "list" = none) (hr : X.mg "range" = none) (ha : CO (S := S) X a t) (hg : Gl X "list" := by rfl) (hg2 : Gl X "range" := by rfl)
    (hs : starEach [a] X.env = (false, eval a X.env) :: starEach [] X.env := by rfl) (hs2 : starEach [Expr.Call (.Name "range" p) [a] [] pos1] X.env = (false, eval (Expr.Call (.Name "range" p) [a] [] pos1) X.env) :: starEach [] X.env := by rfl) :
    CE (S := S) X (.Call (.Name "list" p1) [Expr.Call (.Name "range" p) [a] [] pos1] [] pos) (dRg1 true t) :=
  pe_mono (pe_listRg hx.calm hg ht (prg_1 hg2 hr ha hs) hs2) fun σ H Q h => rg_step h
end
variable {t : (OW S)} {ρ : (En S)} {P : Rs → (En S) → Prop}
@[simp] theorem v_rgT : dRg1 false t ρ P = t ρ fun k ρ1 => gets ((k.rd ρ1).bind D.int?) fun j => (-(2 ^ 62) ≤ j ∧ j ≤ 16777216) ∧ P (.val (.tuple (rangeD 0 j.toNat))) ρ1 := rfl
@[simp] theorem v_rgL : dRg1 true t ρ P = t ρ fun k ρ1 => gets ((k.rd ρ1).bind D.int?) fun j => (-(2 ^ 62) ≤ j ∧ j ≤ 16777216) ∧ P (.own (rangeD 0 j.toNat)) ρ1 := rfl
end Dk
set_option Elab.async false
set_option linter.all false
set_option maxRecDepth 100000
set_option maxHeartbeats 2000000
/-! Dx7: tuple * 0, () * k. -/
namespace Dk
open PySem PySem.Spec PyProof.Rows L2
variable {S : Type} [StK S]
theorem tuple_mulE (l : Addr) (items : Array Value) (n : Nat) (dd : Option Addr) (sl : Array (Option Value)) (x : Int) (u : Tok) (c0 : (decide (x < -(2 ^ 63)) || decide (x ≥ 2 ^ 63)) = false) (c1 : (items.isEmpty || x == 1) = true) :
    Meets (Builtin.«tuple.__mul__» ⟨[.ref l, .int x u], []⟩) (fun _ R s => s.heap.get? l = some { cls := .type "tuple", dict := dd, data := .seq items n, slots := sl } ∧ R (.ok (.ret (Value.ref l))) s) :=
  .of_wp fun prog w A R s h => by
    obtain ⟨hp, g, d, tk, os⟩ := s
    obtain ⟨hl, h⟩ := h
    have f1 := AutoSeq1.idx_int
    wp_walk using wpAny_loadPart' hl
    repeat (first
      | (refine wpAny_ite_false (decide_eq_false (by rw [c0]; exact Bool.false_ne_true)) ?_; wp_walk using wpAny_loadPart' hl)
      | (refine wpAny_ite_true (by simpa using c1) ?_; wp_walk using wpAny_loadPart' hl)
      | (refine wpAny_ite_true (by decide) ?_; wp_walk using wpAny_loadPart' hl))
    exact ⟨_, rfl, h⟩
theorem tuple_mul0 (l : Addr) (items : Array Value) (n : Nat) (dd : Option Addr) (sl : Array (Option Value)) (x : Int) (u : Tok) (c0 : (decide (x < -(2 ^ 63)) || decide (x ≥ 2 ^ 63)) = false) (c1 : (items.isEmpty || x == 1) = false) (c2 : (decide (x ≤ 0) || items.isEmpty) = true) :
    Meets (Builtin.«tuple.__mul__» ⟨[.ref l, .int x u], []⟩) (fun _ R s => s.heap.get? l = some { cls := .type "tuple", dict := dd, data := .seq items n, slots := sl } ∧
      R (.ok (.ret (Value.ref s.heap.objs.size))) { s with heap := s.heap.push { cls := Value.type "tuple", data := Data.seq #[] }, toks := s.toks }) :=
  .of_wp fun prog w A R s h => by
    obtain ⟨hp, g, d, tk, os⟩ := s
    obtain ⟨hl, h⟩ := h
    have f1 := AutoSeq1.idx_int
    wp_walk using wpAny_loadPart' hl
    repeat (first
      | (refine wpAny_ite_false (decide_eq_false (by rw [c0]; exact Bool.false_ne_true)) ?_; wp_walk using wpAny_loadPart' hl)
      | (refine wpAny_ite_false (decide_eq_false (by rw [c1]; exact Bool.false_ne_true)) ?_; wp_walk using wpAny_loadPart' hl)
      | (refine wpAny_ite_true (by simpa using c2) ?_; wp_walk using wpAny_loadPart' hl))
    exact ⟨_, rfl, h⟩
section
variable {X : Cx}
theorem op_repE : OpR X (binaryOp .Mult) (fun x y H Q => ∃ l k xs, x = .ref l ∧ y = .int k ∧ SqT X.K H l xs ∧ (xs = [] ∨ k = 1) ∧ -(2 ^ 63) ≤ k ∧ k < 2 ^ 63 ∧ Q (.ref l) H) := by
  intro pins s σ H x y v u Q I rx ry h
  obtain ⟨l, k, xs, rfl, rfl, hT, hk, h1, h2, q⟩ := h
  cases rx
  obtain ⟨t, rfl⟩ := ry
  obtain ⟨its, r, ⟨⟨cls, dd, data, sl⟩, ho, hc, n, hd⟩, hs⟩ := I.tuple hT
  simp only at hc hd
  subst hc hd
  have c0 : (decide (k < -(2 ^ 63)) || decide (k ≥ 2 ^ 63)) = false := by rw [decide_eq_false (by omega), decide_eq_false (by omega)]; rfl
  have c1 : (its.toArray.isEmpty || k == 1) = true := by
    rcases hk with rfl | rfl
    · have : its = [] := List.eq_nil_of_length_eq_zero (by rw [← r.length]; rfl)
      rw [this]; rfl
    · rw [show ((1 : Int) == 1) = true from rfl, Bool.or_true]
  exact wpAny_binaryOp_repeat_ref (T := "tuple") (U := "int") (by decide) ⟨_, ho, rfl⟩ (fun s' => typeIs_int s' k t) noFill_tuple_mul F.fills_int_mul F.slot_int_rmul repeat_tuple F.slot_int_index.lookup
    (call_meets F.slot_int_rmul (typeIs_int s k t) F.entry_int_rmul (F.args_int_rmul_2 _ _) (int_rmul_tuple k t l its.toArray n dd sl)
      ⟨ho, rfl, ⟨_, ho, rfl⟩, call_meets F.slot_tuple_mul ⟨_, ho, rfl⟩ F.entry_tuple_mul (F.args_tuple_mul_2 _ _) (tuple_mulE l its.toArray n dd sl k t c0 c1) ⟨ho, .ref l, H, I, rfl, q⟩⟩)
theorem op_rep0 : OpR X (binaryOp .Mult) (fun x y H Q => ∃ l k xs, x = .ref l ∧ y = .int k ∧ SqT X.K H l xs ∧ xs ≠ [] ∧ -(2 ^ 63) ≤ k ∧ k ≤ 0 ∧ ∀ p, H p = none → Q (.ref p) (upd H p (.tup []))) := by
  intro pins s σ H x y v u Q I rx ry h
  obtain ⟨l, k, xs, rfl, rfl, hT, hne, h1, h2, q⟩ := h
  cases rx
  obtain ⟨t, rfl⟩ := ry
  obtain ⟨its, r, ⟨⟨cls, dd, data, sl⟩, ho, hc, n, hd⟩, hs⟩ := I.tuple hT
  simp only at hc hd
  subst hc hd
  have hi : its.toArray.isEmpty = false := by
    cases its with
    | nil => exact absurd (List.eq_nil_of_length_eq_zero (by rw [r.length]; rfl)) hne
    | cons a b => rfl
  have c0 : (decide (k < -(2 ^ 63)) || decide (k ≥ 2 ^ 63)) = false := by rw [decide_eq_false (by omega), decide_eq_false (by omega)]; rfl
  have c1 : (its.toArray.isEmpty || k == 1) = false := by
    have e : (k == 1) = false := beq_eq_false_iff_ne.mpr (by omega)
    rw [hi, e]; rfl
  have c2 : (decide (k ≤ 0) || its.toArray.isEmpty) = true := by rw [decide_eq_true h2]; rfl
  exact wpAny_binaryOp_repeat_ref (T := "tuple") (U := "int") (by decide) ⟨_, ho, rfl⟩ (fun s' => typeIs_int s' k t) noFill_tuple_mul F.fills_int_mul F.slot_int_rmul repeat_tuple F.slot_int_index.lookup
    (call_meets F.slot_int_rmul (typeIs_int s k t) F.entry_int_rmul (F.args_int_rmul_2 _ _) (int_rmul_tuple k t l its.toArray n dd sl)
      ⟨ho, rfl, ⟨_, ho, rfl⟩, call_meets F.slot_tuple_mul ⟨_, ho, rfl⟩ F.entry_tuple_mul (F.args_tuple_mul_2 _ _) (tuple_mul0 l its.toArray n dd sl k t c0 c1 c2)
        ⟨ho, .ref s.heap.objs.size, upd H s.heap.objs.size (.tup []), I.laid (t' := s.toks) (o := .tup []) (fun b o e => Heap.get?_push_of_some _ e) (Nat.le_refl _) (show ObjOk X.prog X.w _ _ _ (.tup []) from ⟨Nat.zero_le _, [], .nil, IsTup.new _ _⟩), rfl, q _ (I.hok.fresh (Nat.le_refl _))⟩⟩)
def mulZ : D → D → Option Rs
  | .tuple xs, .int k => if -(2 ^ 63) ≤ k ∧ k ≤ 1000 ∧ xs.length ≤ 1000 then some (.val (.tuple (List.replicate k.toNat xs).flatten)) else none
  | a, b => mulD a b
theorem od_mulZ : OpD X (binaryOp .Mult) mulZ := by
  intro pins s σ H x y v u Q I rx ry ⟨F, d, e, r, ⟨hz0, hF⟩, hd, he, hg, q⟩
  unfold mulZ at hg
  split at hg
  · split at hg
    · rename_i xs k hc
      cases hg
      by_cases hx : xs = [] ∨ k = 1
      · have hdr : DR X.K F (.tuple xs) x := by
          rcases hd with hd | ⟨ds, a, vs, e, _⟩
          · exact hd
          · cases e
        obtain ⟨a, vs, rfl, ha, ra⟩ := (RdD.tuple hd hF : _)
        have hv : vs = [] ∨ k = 1 := hx.imp (fun e => List.eq_nil_of_length_eq_zero (by rw [ra.len, e]; rfl)) id
        refine op_repE pins s σ H _ y v u Q I rx ry ⟨a, k, vs, rfl, he.int, ha, hv, hc.1, by omega, q.1 _ ?_⟩
        have e1 : (List.replicate k.toNat xs).flatten = xs := by
          rcases hx with rfl | rfl
          · simp
          · simp
        rw [e1]
        exact hdr
      · have hx1 : xs ≠ [] := fun e => hx (.inl e)
        have hk1 : k ≠ 1 := fun e => hx (.inr e)
        obtain ⟨a, vs, rfl, ha, ra⟩ := hd.tuple hF
        have hl := ra.len
        have hvs : vs ≠ [] := fun e => hx1 (by subst e; exact List.length_eq_zero_iff.mp (by simpa using hl.symm))
        by_cases h0 : k ≤ 0
        · refine op_rep0 pins s σ H _ y v u Q I rx ry ⟨a, k, vs, rfl, he.int, ha, hvs, hc.1, h0, fun p hp => ?_⟩
          have e1 : (List.replicate k.toNat xs).flatten = [] := by rw [show k.toNat = 0 by omega]; rfl
          exact q.2.1 [] [] p (by rw [e1]) .nil (Nat.zero_le _) hp
        · refine op_repT pins s σ H _ y v u Q I rx ry ⟨a, _, vs, rfl, he.int, ha, hvs, by omega, hc.2.1, by rw [hl]; exact hc.2.2, fun p hp => q.2.1 _ _ p rfl (ra.rep _) ?_ hp⟩
          rw [len_rep, hl, sizeLine_eq]
          exact Nat.le_trans (show _ ≤ 1000 * 1000 from Nat.mul_le_mul (by omega) hc.2.2) (by omega)
    · cases hg
  · exact od_mul pins s σ H x y v u Q I rx ry ⟨F, d, e, r, ⟨hz0, hF⟩, hd, he, hg, q⟩
end
@[simp↓] theorem g_mulZ {xs : List D} {i : Int} {k : Rs → Prop} : gets (mulZ (.tuple xs) (.int i)) k = ((-(2 ^ 63) ≤ i ∧ i ≤ 1000 ∧ xs.length ≤ 1000) ∧ k (.val (.tuple (List.replicate i.toNat xs).flatten))) := by unfold mulZ; exact g_ite
/-! ### is True, is False -/
def isB (neg : Bool) (d e : D) : Option Rs := match d, e with
  | .bool a, .bool b => some (bl (if neg then !decide (a = b) else decide (a = b)))
  | d, e => isD neg d e
section
variable {X : Cx}
theorem od_isB : OpD X (compareOp .Is) (isB false) := by
  intro pins s σ H x y v u Q I rx ry ⟨F, d, e, r, ⟨hz0, hF⟩, hd, he, hg, q⟩
  unfold isB at hg
  split at hg
  · cases hg
    exact op_is_bl pins s σ H x y v u Q I rx ry ⟨_, _, hd.bool, he.bool, q.bl_⟩
  · exact od_is pins s σ H x y v u Q I rx ry ⟨F, d, e, r, ⟨hz0, hF⟩, hd, he, hg, q⟩
theorem od_isnotB : OpD X (compareOp .IsNot) (isB true) := by
  intro pins s σ H x y v u Q I rx ry ⟨F, d, e, r, ⟨hz0, hF⟩, hd, he, hg, q⟩
  unfold isB at hg
  split at hg
  · cases hg
    exact op_isnot_bl pins s σ H x y v u Q I rx ry ⟨_, _, hd.bool, he.bool, q.bl_⟩
  · exact od_isnot pins s σ H x y v u Q I rx ry ⟨F, d, e, r, ⟨hz0, hF⟩, hd, he, hg, q⟩
end
@[simp↓] theorem g_isB {a b : Bool} {k : Rs → Prop} : gets (isB false (.bool a) (.bool b)) k = k (.val (.bool (decide (a = b)))) := rfl
@[simp↓] theorem g_isBn {a b : Bool} {k : Rs → Prop} : gets (isB true (.bool a) (.bool b)) k = k (.val (.bool (!decide (a = b)))) := rfl
end Dk
set_option Elab.async false
set_option linter.all false
set_option maxRecDepth 100000
set_option maxHeartbeats 2000000
/-! Dm: which data are memos, corners. -/
namespace Dk
open PySem PySem.Spec PyProof.Rows L2
def isAmts (size : Nat) (high : Int) : D → Bool
  | .tuple ds => decide (ds.length = size) && ds.all fun d => isInt d 0 high
  | _ => false
def isNeeds (node : Int) : D → Bool
  | .tuple ds => decide (ds.length ≤ 2) && ds.all fun d => isInt d 0 (node - 1)
  | _ => false
def isAltD (node : Int) (size : Nat) : D → Bool
  | .tuple [a, b] => isAmts size 1000000 a && isNeeds node b
  | _ => false
def isNodeD (node : Int) (size : Nat) : D → Bool
  | .tuple ds => decide (1 ≤ ds.length ∧ ds.length ≤ 20) && ds.all (isAltD node size)
  | _ => false
def headD : D → Option D
  | .tuple (x :: _) => some x
  | _ => none
def lenO : D → Option Nat
  | .tuple ds => some ds.length
  | _ => none
def sizeO (v : D) : Option Nat := (headD v).bind fun a => (headD a).bind fun b => (headD b).bind lenO
/-! parts -/
def needsD : D → List Int
  | .tuple [_, .tuple ns] => ns.map toI
  | _ => []
def altP (ps : List Int) (d : D) : Int := ((needsD d).map fun k => ps.getD k.toNat 0).sum
def altsD : D → List D
  | .tuple as => as
  | _ => []
def nodeP (ps : List Int) (d : D) : Int := 1 + (maxI ((altsD d).map (altP ps))).getD 0
def partsF : List D → List Int → List Int
  | [], ps => ps
  | d :: r, ps => partsF r (ps ++ [nodeP ps d])
def partsLD (ds : List D) : List Int := partsF ds []
def nodesOk (size : Nat) : Nat → List D → Bool
  | _, [] => true
  | i, d :: r => isNodeD i size d && nodesOk size (i + 1) r
def isMemoD (v : D) : Bool := match sizeO v with
  | none => false
  | some s => decide (1 ≤ s ∧ s ≤ 4) && (match v with
    | .tuple ns => decide (ns.length ≤ 24) && (nodesOk s 0 ns && (match maxI (partsLD ns) with | some k => decide (k ≤ 31) | none => false))
    | _ => false)
def isCornD (size : Nat) : D → Bool
  | .tuple ds => decide (1 ≤ ds.length ∧ ds.length ≤ 4) && ds.all (isAmts size 1000)
  | _ => false
theorem partsF_len : ∀ (ds : List D) (ps : List Int), (partsF ds ps).length = ps.length + ds.length
  | [], ps => rfl
  | d :: r, ps => by rw [partsF, partsF_len r, List.length_append, List.length_singleton, List.length_cons]; omega
theorem partsF_snoc : ∀ (ds : List D) (d : D) (ps : List Int), partsF (ds ++ [d]) ps = partsF ds ps ++ [nodeP (partsF ds ps) d]
  | [], d, ps => rfl
  | e :: r, d, ps => by rw [List.cons_append, partsF, partsF, partsF_snoc r]
theorem parts_snoc {ds : List D} {d : D} : partsLD (ds ++ [d]) = partsLD ds ++ [nodeP (partsLD ds) d] := partsF_snoc ds d []
theorem parts_len {ds : List D} : (partsLD ds).length = ds.length := by unfold partsLD; rw [partsF_len]; simp
theorem nodesOk_at {size : Nat} : ∀ {ds : List D} {i j : Nat} {d : D}, nodesOk size i ds = true → ds[j]? = some d → isNodeD ((i + j : Nat) : Int) size d = true
  | [], i, j, d, _, h => by simp at h
  | e :: r, i, 0, d, h, hj => by
    rw [nodesOk, Bool.and_eq_true] at h
    simp at hj
    subst hj
    exact h.1
  | e :: r, i, j + 1, d, h, hj => by
    rw [nodesOk, Bool.and_eq_true] at h
    have := nodesOk_at (j := j) h.2 (by simpa using hj)
    rw [show i + (j + 1) = i + 1 + j by omega]
    exact this
theorem nodesOk_bad {size : Nat} : ∀ {ds : List D} {i j : Nat} {d : D}, ds[j]? = some d → isNodeD ((i + j : Nat) : Int) size d = false → nodesOk size i ds = false
  | [], i, j, d, h, _ => by simp at h
  | e :: r, i, 0, d, hj, h => by
    simp at hj
    subst hj
    rw [nodesOk, show isNodeD (i : Int) size e = false from h]
    rfl
  | e :: r, i, j + 1, d, hj, h => by
    rw [nodesOk, nodesOk_bad (j := j) (by simpa using hj) (by rw [show i + 1 + j = i + (j + 1) by omega]; exact h), Bool.and_false]
theorem nodesOk_all {size : Nat} : ∀ {ds : List D} {i : Nat}, (∀ (j : Nat) (d : D), ds[j]? = some d → isNodeD ((i + j : Nat) : Int) size d = true) → nodesOk size i ds = true
  | [], i, _ => rfl
  | e :: r, i, h => by
    rw [nodesOk, show isNodeD (i : Int) size e = true from h 0 e rfl, Bool.true_and]
    exact nodesOk_all fun j d hj => by
      have := h (j + 1) d (by simpa using hj)
      rw [show i + 1 + j = i + (j + 1) by omega]
      exact this
/-- a node's alternatives, in their form -/
theorem isNode_alts {node : Int} {size : Nat} {d : D} (h : isNodeD node size d = true) : ∃ as, d = .tuple as ∧ 1 ≤ as.length ∧ as.length ≤ 20 ∧ ∀ a ∈ as, ∃ (x : D) (ns : List Int), a = .tuple [x, .tuple (ns.map .int)] ∧ ns.length ≤ 2 ∧ (∀ k ∈ ns, 0 ≤ k ∧ k ≤ node - 1) ∧ needsD a = ns ∧ isAmts size 1000000 x = true := by
  cases d with
  | tuple as =>
    simp only [isNodeD, Bool.and_eq_true, decide_eq_true_eq, List.all_eq_true] at h
    refine ⟨as, rfl, h.1.1, h.1.2, fun a ha => ?_⟩
    have h1 := h.2 a ha
    unfold isAltD at h1
    split at h1
    · rename_i x b
      rw [Bool.and_eq_true] at h1
      obtain ⟨h2, h3⟩ := h1
      cases b with
      | tuple ns =>
        simp only [isNeeds, Bool.and_eq_true, decide_eq_true_eq, List.all_eq_true] at h3
        have hm : (ns.map toI).map PyData.int = ns := by
          rw [List.map_map]
          conv => rhs; rw [← List.map_id ns]
          refine List.map_congr_left fun z hz => ?_
          obtain ⟨k, rfl, _, _⟩ := isInt_some (h3.2 z hz)
          rfl
        refine ⟨x, ns.map toI, by rw [hm], by rw [List.length_map]; exact h3.1, fun k hk => ?_, rfl, h2⟩
        obtain ⟨z, hz, rfl⟩ := List.mem_map.mp hk
        obtain ⟨k, rfl, a, b⟩ := isInt_some (h3.2 z hz)
        exact ⟨a, b⟩
      | _ => cases h3
    · cases h1
  | _ => cases h
/-! ### specs -/
def spAreInts : DSp := fun as pn P => ∃ (v : D) (size : Nat) (high : Int), as = [.val v, .val (.int size), .val (.int high)] ∧ P (.bool (isAmts size high v)) pn
def spIsAlt : DSp := fun as pn P => ∃ (node size : Nat) (v : D), as = [.val (.int node), .val (.int size), .val v] ∧ P (.bool (isAltD node size v)) pn
def spIsNode : DSp := fun as pn P => ∃ (node size : Nat) (v : D), as = [.val (.int node), .val (.int size), .val v] ∧ P (.bool (isNodeD node size v)) pn
def spSizeOf : DSp := fun as pn P => ∃ v : D, as = [.val v] ∧ P (.int ((sizeO v).getD 0 : Nat)) pn
def spSizeL : DSp := fun as pn P => ∃ v : D, as = [.val v] ∧ P (match sizeO v with | some s => .int (s : Nat) | none => .none) pn
def spGreat : DSp := fun as pn P => ∃ (ds : List D) (size : Nat), as = [.val (.tuple ds)] ∧ ds.length ≤ 1000 ∧ nodesOk size 0 ds = true ∧ P (.list ((partsLD ds).map .int)) pn
def spIsMemo : DSp := fun as pn P => ∃ v : D, as = [.val v] ∧ P (.bool (isMemoD v)) pn
def spIsCorn : DSp := fun as pn P => ∃ (m : Memo) (n : List Alt) (a : Alt) (v : D), as = [.val (memoD m), .val v] ∧ m[0]? = some n ∧ n[0]? = some a ∧ P (.bool (isCornD a.1.length v)) pn
end Dk
set_option Elab.async false
set_option linter.all false
set_option maxRecDepth 100000
set_option maxHeartbeats 2000000
/-! Dm2: small plain data; values near a memo. -/
namespace Dk
open PySem PySem.Spec PyProof.Rows L2
structure Sm (c h : Nat) (d : D) : Prop where
  p : pl d = true
  w : wgt d ≤ c
  dp : d.depth ≤ h
theorem Sm.mono {c h c' h' : Nat} {d : D} (s : Sm c h d) (hc : c ≤ c') (hh : h ≤ h') : Sm c' h' d := ⟨s.p, Nat.le_trans s.w hc, Nat.le_trans s.dp hh⟩
theorem Sm.vw {c h : Nat} {d : D} (s : Sm c h d) : Vw c h d := Vw.ofPl s.p s.w s.dp
theorem wgts_le {c : Nat} : ∀ {xs : List D}, (∀ d ∈ xs, wgt d ≤ c) → wgts xs ≤ xs.length * (c + 2)
  | [], _ => by simp [wgts_nil]
  | x :: xs, h => by
    have h1 := h x (by simp)
    have h2 := wgts_le (xs := xs) fun y hy => h y (by simp [hy])
    rw [wgts_cons, List.length_cons, Nat.succ_mul]
    omega
theorem Sm.tup {c h L : Nat} {xs : List D} (hx : ∀ d ∈ xs, Sm c h d) (hl : xs.length ≤ L) : Sm (L * (c + 2) + 3) (h + 1) (.tuple xs) := by
  refine ⟨by rw [pl_tuple]; exact plA_iff.mpr fun d hd => (hx d hd).p, ?_, ?_⟩
  · have h1 := wgts_le fun d hd => (hx d hd).w
    have h2 : xs.length * (c + 2) ≤ L * (c + 2) := Nat.mul_le_mul_right _ hl
    rw [wgt_tuple]
    omega
  · rw [depth_tuple]
    have := depthAll_le.mpr fun d hd => (hx d hd).dp
    omega
theorem Sm.int {i : Int} (h : i.natAbs < 1000000000000) : Sm 13 0 (.int i) := ⟨pl_int (by omega), wgt_small h, Nat.le_refl _⟩
theorem Sm.ints {is : List Int} {L : Nat} (h : ∀ i ∈ is, i.natAbs < 1000000000000) (hl : is.length ≤ L) : Sm (L * 15 + 3) 1 (.tuple (is.map .int)) := Sm.tup (c := 13) (h := 0) (fun d hd => by
  obtain ⟨i, hi, rfl⟩ := List.mem_map.mp hd
  exact Sm.int (h i hi)) (by rw [List.length_map]; exact hl)
/-- one odd part among plain ones -/
theorem Vw.mid {W h c L : Nat} {xs ys : List D} {d : D} (v : Vw W h d) (hx : ∀ e ∈ xs, Sm c h e) (hy : ∀ e ∈ ys, Sm c h e) (lx : xs.length + ys.length ≤ L) : Vw (W + L * (c + 2) + 5) (h + 1) (.tuple (xs ++ d :: ys)) := by
  have h1 := wgts_le fun d hd => (hx d hd).w
  have h2 := wgts_le fun d hd => (hy d hd).w
  have h3 : (xs.length + ys.length) * (c + 2) ≤ L * (c + 2) := Nat.mul_le_mul_right _ lx
  rw [Nat.add_mul] at h3
  refine (Vw.around v (plA_iff.mpr fun d hd => (hx d hd).p) (plA_iff.mpr fun d hd => (hy d hd).p) (depthAll_le.mpr fun d hd => (hx d hd).dp) (depthAll_le.mpr fun d hd => (hy d hd).dp)).mono (by omega) (Nat.le_refl _)
theorem sm_alt {size i : Nat} {a : Alt} (hs : size ≤ 4) (hi : i ≤ 1000) (h : FineA size i a) : sm (altD a) = true ∧ Sm 110 2 (altD a) := by
  obtain ⟨p, w, d⟩ := alt_ok hs hi h
  obtain ⟨⟨h1, h2⟩, h3, h4⟩ := h
  refine ⟨?_, p, w, d⟩
  have big : ∀ k : Int, 0 ≤ k → k ≤ 1000000 → sm (.int k) = true := fun k k0 k1 => by
    rw [sm, decide_eq_true_eq]
    exact Nat.lt_of_lt_of_le (show k.natAbs < 1000001 by omega) (by decide +kernel)
  unfold altD
  rw [sm_tup]
  refine ⟨by simp, smA_iff.mpr fun d hd => ?_⟩
  simp only [List.mem_cons, List.not_mem_nil, or_false] at hd
  rcases hd with rfl | rfl
  · rw [sm_tup]
    refine ⟨by rw [List.length_map]; omega, smA_iff.mpr fun d hd => ?_⟩
    obtain ⟨x, hx, rfl⟩ := List.mem_map.mp hd
    have := h2 x hx
    exact big x this.1 this.2
  · rw [sm_tup]
    refine ⟨by unfold needsL; rw [List.length_map]; omega, smA_iff.mpr fun d hd => ?_⟩
    unfold needsL at hd
    obtain ⟨x, hx, rfl⟩ := List.mem_map.mp hd
    have := h4 x hx
    exact big x (by omega) (by omega)
structure MemoS (m : Memo) : Prop where
  n0 : m ≠ []
  n1 : m.length ≤ 5
  size : ∃ size, 1 ≤ size ∧ size ≤ 3 ∧ ∃ B, Fine size 5 B m
theorem MemoS.node {m : Memo} (M : MemoS m) {n : List Alt} (hn : n ∈ m) : n ≠ [] ∧ n.length ≤ 5 ∧ (∀ a ∈ n, sm (altD a) = true ∧ Sm 110 2 (altD a) ∧ 1 ≤ a.1.length ∧ a.1.length ≤ 3 ∧ (∀ x ∈ a.1, 0 ≤ x ∧ x ≤ 1000000) ∧ a.2.length ≤ 2 ∧ ∀ x ∈ a.2, x ≤ 5) := by
  obtain ⟨size, s1, s2, B, F⟩ := M.size
  obtain ⟨i, hi, e⟩ := List.mem_iff_getElem.mp hn
  obtain ⟨h1, h2, h3⟩ := F.node i n (by rw [List.getElem?_eq_getElem hi, e])
  have := M.n1
  refine ⟨h1, h2, fun a ha => ?_⟩
  obtain ⟨q1, q2⟩ := sm_alt (by omega) (by omega) (h3 a ha)
  obtain ⟨⟨g1, g2⟩, g3, g4⟩ := h3 a ha
  exact ⟨q1, q2, by omega, by omega, g2, g3, fun x hx => by have := g4 x hx; omega⟩
theorem MemoS.nodeS {m : Memo} (M : MemoS m) {n : List Alt} (hn : n ∈ m) : Sm 563 3 (nodeD n) := Sm.tup (c := 110) (h := 2) (L := 5) (fun d hd => by
  obtain ⟨a, ha, rfl⟩ := List.mem_map.mp hd
  exact ((M.node hn).2.2 a ha).2.1) (by rw [List.length_map]; exact (M.node hn).2.1)
theorem MemoS.nodes {m : Memo} (M : MemoS m) : ∀ d ∈ m.map nodeD, Sm 563 3 d := fun d hd => by
  obtain ⟨n, hn, rfl⟩ := List.mem_map.mp hd
  exact M.nodeS hn
theorem MemoS.memo {m : Memo} (M : MemoS m) : Sm 2828 4 (memoD m) := Sm.tup (c := 563) (h := 3) (L := 5) M.nodes (by rw [List.length_map]; exact M.n1)
theorem MemoS.sm {m : Memo} (M : MemoS m) : sm (memoD m) = true := by
  unfold memoD
  rw [sm_tup]
  refine ⟨by have := M.n1; rw [List.length_map]; omega, smA_iff.mpr fun d hd => ?_⟩
  obtain ⟨n, hn, rfl⟩ := List.mem_map.mp hd
  unfold nodeD
  rw [sm_tup]
  refine ⟨by have := (M.node hn).2.1; rw [List.length_map]; omega, smA_iff.mpr fun d hd => ?_⟩
  obtain ⟨a, ha, rfl⟩ := List.mem_map.mp hd
  exact ((M.node hn).2.2 a ha).1
def spChain : DSp := fun as pn P => ∃ (p : Pen) (n b : Nat), as = [.pen, .val (.tuple (List.replicate n (.int 0)))] ∧ n ≤ 4 ∧ pn = some p ∧ Bud p (b + 20) ∧ ∀ d p', Sm 100000 5 d → Bud p' b → P d (some p')
def spNear : DSp := fun as pn P => ∃ (p : Pen) (m : Memo) (b : Nat), as = [.pen, .val (memoD m)] ∧ MemoS m ∧ pn = some p ∧ Bud p (b + 30) ∧ ∀ d p', VwA d → Bud p' b → P d (some p')
end Dk
set_option Elab.async false
set_option linter.all false
set_option maxRecDepth 100000
set_option maxHeartbeats 2000000
/-! Dy: repr of data with lists and empty dicts, mixed. -/
namespace Dk
open PySem PySem.Spec PyProof.Rows L2
variable {S : Type} [StK S]
section
variable {X : Cx} {k : Nat} {pins : List (Addr × Obj)} {σ : L2.St} {H F : Hp} {s : Shared}
mutual
theorem DR.reprK (I : L2.Inv X pins σ H s) (e : Le F H) : ∀ (d : D) (v : V) (u : Value), DR X.K F d v → RelV v u → d.showable = true → d.shown.length ≤ sizeLine →
    ∃ bs, ReadAtMost s.heap d.depth bs ∧ ReprK X.prog X.w bs s.heap d.depth u d.shown
  | .none, v, u, h, r, hs, hz => by
    obtain ⟨as, q, z⟩ := DR.reads I e _ v u h r
    exact ReprK.of_reads q hs (fun x => by simp [PyData.hasDict] at x) hz
  | .bool b, v, u, h, r, hs, hz => by
    obtain ⟨as, q, z⟩ := DR.reads I e _ v u h r
    exact ReprK.of_reads q hs (fun x => by simp [PyData.hasDict] at x) hz
  | .int i, v, u, h, r, hs, hz => by
    obtain ⟨as, q, z⟩ := DR.reads I e _ v u h r
    exact ReprK.of_reads q hs (fun x => by simp [PyData.hasDict] at x) hz
  | .str x, v, u, h, r, hs, hz => by
    obtain ⟨as, q, z⟩ := DR.reads I e _ v u h r
    exact ReprK.of_reads q hs (fun x => by simp [PyData.hasDict] at x) hz
  | .dict kvs, v, u, h, r, hs, hz => by
    obtain ⟨as, q, z⟩ := DR.reads I e _ v u h r
    exact ReprK.of_reads q hs (fun _ => z rfl) hz
  | .list xs, v, u, h, r, hs, hz => by
    obtain ⟨a, vs, rfl, h1, h2⟩ := DR.list_.mp h
    cases r
    obtain ⟨its, rv, ⟨o, n, ho, hc, _, hd⟩, _⟩ := I.list (.inl (.inl (e _ _ h1)))
    obtain ⟨as, hr, _⟩ := DRs.reads I e xs vs its h2 rv
    have hz' : (listText (PyData.shownAll xs)).length ≤ sizeLine := by simpa only [PyData.shown] using hz
    obtain ⟨bs, hb, hk⟩ := DRs.reprK I e xs vs its h2 rv (by simpa [PyData.showable] using hs) (fun t ht => Nat.le_trans (listText_mem_le ht) hz')
    have r : Reads s.heap (.ref a) (.list xs) _ := .list ho hc hd hr
    have hna : a ∉ bs := not_mem_of_deeper r (by simp only [PyData.depth]; omega) hb
    refine ⟨a :: bs, ReadAtMost.cons r (by simp only [PyData.depth]; omega) hb, ?_⟩
    simp only [PyData.depth, PyData.shown]
    cases its with
    | nil =>
      cases hr
      simp only [PyData.shownAll, listText_nil]
      exact ReprK.listEmpty ho hc hd
    | cons x l => exact ReprK.list ho hc hd hna (by simpa using hk.length_eq) (fun i y e => hk.item i y (by simpa using e))
  | .tuple xs, v, u, h, r, hs, hz => by
    obtain ⟨a, vs, rfl, h1, h2⟩ := DR.tuple_.mp h
    cases r
    obtain ⟨its, rv, ⟨o, ho, hc, n, hd⟩, _⟩ := I.tuple (e.t h1)
    obtain ⟨as, hr, _⟩ := DRs.reads I e xs vs its h2 rv
    have hz' : (tupleText (PyData.shownAll xs)).length ≤ sizeLine := by simpa only [PyData.shown] using hz
    obtain ⟨bs, hb, hk⟩ := DRs.reprK I e xs vs its h2 rv (by simpa [PyData.showable] using hs) (fun t ht => Nat.le_trans (tupleText_mem_le ht) hz')
    have r : Reads s.heap (.ref a) (.tuple xs) _ := .tuple ho hc hd hr
    have hna : a ∉ bs := not_mem_of_deeper r (by simp only [PyData.depth]; omega) hb
    refine ⟨a :: bs, ReadAtMost.cons r (by simp only [PyData.depth]; omega) hb, ?_⟩
    simp only [PyData.depth, PyData.shown]
    exact ReprK.tuple ho hc hd hna hk
theorem DRs.reprK (I : L2.Inv X pins σ H s) (e : Le F H) : ∀ (ds : List D) (vs : List V) (us : List Value), DRs X.K F ds vs → Vals vs us → PyData.showableAll ds = true → (∀ t ∈ PyData.shownAll ds, t.length ≤ sizeLine) →
    ∃ bs, ReadAtMost s.heap (PyData.depthAll ds) bs ∧ ReprAllK X.prog X.w bs s.heap (PyData.depthAll ds) us (PyData.shownAll ds)
  | [], vs, us, h, r, hs, hz => by
    rw [DRs.nil_.mp h] at r
    cases r
    exact ⟨[], (fun _ h => nomatch h), by simp only [PyData.shownAll]; exact .nil⟩
  | d :: ds, vs, us, h, r, hs, hz => by
    obtain ⟨v, vr, rfl, h2, h3⟩ := DRs.cons_.mp h
    cases r with
    | cons r1 r2 =>
      have hs' : d.showable = true ∧ PyData.showableAll ds = true := by simpa [PyData.showableAll] using hs
      obtain ⟨b1, hb1, k1⟩ := DR.reprK I e d _ _ h2 r1 hs'.1 (hz _ (by simp only [PyData.shownAll]; exact List.mem_cons_self ..))
      obtain ⟨b2, hb2, k2⟩ := DRs.reprK I e ds _ _ h3 r2 hs'.2 (fun t ht => hz t (by simp only [PyData.shownAll]; exact List.mem_cons_of_mem _ ht))
      refine ⟨b1 ++ b2, ?_, ?_⟩
      · intro b hm
        simp only [PyData.depthAll]
        rcases List.mem_append.mp hm with hm | hm
        · obtain ⟨d', as', r', hd'⟩ := hb1 b hm
          exact ⟨d', as', r', Nat.le_trans hd' (Nat.le_max_left _ _)⟩
        · obtain ⟨d', as', r', hd'⟩ := hb2 b hm
          exact ⟨d', as', r', Nat.le_trans hd' (Nat.le_max_right _ _)⟩
      · simp only [PyData.depthAll, PyData.shownAll]
        exact .cons ((k1.more fun b hb => List.mem_append_left _ hb).level_le (Nat.le_max_left _ _)) (k2.more_le (fun b hb => List.mem_append_right _ hb) (Nat.le_max_right _ _))
end
def reprOkZ (d : D) : Prop := d.showable = true ∧ d.shown.length ≤ sizeLine ∧ d.depth ≤ 100
instance {d : D} : Decidable (reprOkZ d) := by unfold reprOkZ; infer_instance
def reprZ : List D → Option Rs
  | [d] => if reprOkZ d then some (.val (.str d.shown)) else none
  | _ => none
@[simp↓] theorem g_reprZ {d : D} {k : Rs → Prop} : gets (reprZ [d]) k = (reprOkZ d ∧ k (.val (.str d.shown))) := by unfold reprZ; exact g_ite
theorem list_road {xs : List D} {a : Addr} {vs : List V} {its : List Value} {o : Obj} {n : Nat} {A : Around} {E : Value → Shared → Prop} {Q : Value → Shared → Prop} (I : L2.Inv X pins σ H s) (e : Le F H) (h2 : DRs X.K F xs vs) (rv : Vals vs its) (ho : s.heap.get? a = some o) (hc : o.cls = .type "list") (hd : o.data = .seq its.toArray n)
    (hs : (PyData.list xs).showable = true) (hz : (PyData.list xs).shown.length ≤ sizeLine) (hg : A.guards = some []) (hu : A.units + ((PyData.list xs).depth + 1) < cLine)
    (hQ : ∀ h' u tk, (∀ b o, s.heap.get? b = some o → h'.get? b = some o) → Q (.str (PyData.list xs).shown u) { s with heap := h', toks := tk }) : wpAny (model X.prog X.w) A (call (.builtin "repr") [.ref a]) Q E s := by
  obtain ⟨as, hr, _⟩ := DRs.reads I e xs vs its h2 rv
  have hz' : (listText (PyData.shownAll xs)).length ≤ sizeLine := by simpa only [PyData.shown] using hz
  obtain ⟨bs, hb, hk⟩ := DRs.reprK I e xs vs its h2 rv (by simpa [PyData.showable] using hs) (fun t ht => Nat.le_trans (listText_mem_le ht) hz')
  have r : Reads s.heap (.ref a) (.list xs) _ := .list ho hc hd hr
  have hna : a ∉ bs := not_mem_of_deeper r (by simp only [PyData.depth]; omega) hb
  have S : ShowsBy X.prog X.w s.heap a (.list xs) "list" "list.__repr__" := by
    refine ⟨PySem.F.slot_list_repr.toG, PySem.F.slot_list_str, PySem.F.slot_list_format, fun s hk0 => ⟨o, hk0 _ _ ho, hc⟩, fun A E s' Q hg hu hk0 hQ => ?_⟩
    simp only [PyData.depth] at hu
    simp only [PyData.shown] at hQ
    cases its with
    | nil =>
      cases hr
      simp only [PyData.shownAll, listText_nil] at hQ
      exact call_list_repr_empty ⟨o, hk0 _ _ ho, hc⟩ (hk0 _ _ ho) hd (hQ s'.heap _ _ fun _ _ e => e)
    | cons x l =>
      exact call_list_reprK ho hc hd hna (by simpa using hk.length_eq) (fun i y e => hk.item i y (by simpa using e)) hg (fun b _ => Clear.nil b) hu hk0 hQ hz'
  exact call_repr_slot (by omega) (S.typeIs s (fun _ _ e => e)) S.slotRepr (S.call A.in1 E s _ hg (by show A.units + 1 + (PyData.list xs).depth < cLine; omega) (fun _ _ e => e) fun h' u tk hk => ⟨_, _, rfl, hQ h' u tk hk⟩)
theorem tup_road {xs : List D} {a : Addr} {vs : List V} {its : List Value} {o : Obj} {n : Nat} {A : Around} {E : Value → Shared → Prop} {Q : Value → Shared → Prop} (I : L2.Inv X pins σ H s) (e : Le F H) (h2 : DRs X.K F xs vs) (rv : Vals vs its) (ho : s.heap.get? a = some o) (hc : o.cls = .type "tuple") (hd : o.data = .seq its.toArray n)
    (hs : (PyData.tuple xs).showable = true) (hz : (PyData.tuple xs).shown.length ≤ sizeLine) (hg : A.guards = some []) (hu : A.units + ((PyData.tuple xs).depth + 1) < cLine)
    (hQ : ∀ h' u tk, (∀ b o, s.heap.get? b = some o → h'.get? b = some o) → Q (.str (PyData.tuple xs).shown u) { s with heap := h', toks := tk }) : wpAny (model X.prog X.w) A (call (.builtin "repr") [.ref a]) Q E s := by
  obtain ⟨as, hr, _⟩ := DRs.reads I e xs vs its h2 rv
  have hz' : (tupleText (PyData.shownAll xs)).length ≤ sizeLine := by simpa only [PyData.shown] using hz
  obtain ⟨bs, hb, hk⟩ := DRs.reprK I e xs vs its h2 rv (by simpa [PyData.showable] using hs) (fun t ht => Nat.le_trans (tupleText_mem_le ht) hz')
  have r : Reads s.heap (.ref a) (.tuple xs) _ := .tuple ho hc hd hr
  have hna : a ∉ bs := not_mem_of_deeper r (by simp only [PyData.depth]; omega) hb
  have S : ShowsBy X.prog X.w s.heap a (.tuple xs) "tuple" "tuple.__repr__" := by
    refine ⟨PySem.F.slot_tuple_repr, PySem.F.slot_tuple_str, PySem.F.slot_tuple_format, fun s hk0 => ⟨o, hk0 _ _ ho, hc⟩, fun A E s' Q hg hu hk0 hQ => ?_⟩
    simp only [PyData.depth] at hu
    simp only [PyData.shown] at hQ
    exact call_tuple_reprK ho hc hd hna hk hg (fun b _ => Clear.nil b) hu hk0 hQ hz'
  exact call_repr_slot (by omega) (S.typeIs s (fun _ _ e => e)) S.slotRepr (S.call A.in1 E s _ hg (by show A.units + 1 + (PyData.tuple xs).depth < cLine; omega) (fun _ _ e => e) fun h' u tk hk => ⟨_, _, rfl, hQ h' u tk hk⟩)
theorem cd_reprZ (hx : XO X k) : CallD X (.builtin "repr") reprZ := by
  intro pins s σ H xs us Q I rv ⟨F, ds, r, ⟨hz0, hF⟩, hd, hg, q⟩
  unfold reprZ at hg
  split at hg
  · obtain ⟨⟨c1, c2, c3⟩, rfl⟩ := some_ite hg
    rename_i d
    by_cases hl : noList d = true ∨ d.hasDict = false
    · exact cd_repr hx pins s σ H xs us Q I rv ⟨F, [d], _, ⟨hz0, hF⟩, hd, by show (if reprOk d then _ else _) = _; rw [if_pos ⟨c1, c2, c3, hl⟩], q⟩
    · obtain ⟨v, rfl, h⟩ := hd.one
      obtain ⟨u, rfl, ru⟩ := vals1 rv
      have hu : X.A.units + (d.depth + 1) < cLine := by have := hx.room.un; omega
      have fin : ∀ (h' : Heap) (u : Tok) (tk : Nat), (∀ b o, s.heap.get? b = some o → h'.get? b = some o) → EP X pins σ Q (.str d.shown u) { s with heap := h', toks := tk } := fun h' u tk hk => ⟨.str d.shown, H, I.kept (t' := tk) hk, ⟨u, rfl⟩, q.str_⟩
      cases d with
      | list xs =>
        rcases h with h | ⟨ds, a, vs, e1, e2, h1, h2⟩
        · obtain ⟨a, vs, rfl, h1, h2⟩ := DR.list_.mp h
          cases ru
          obtain ⟨its, rv, ⟨o, n, ho, hc, _, hd⟩, _⟩ := I.list (.inl (.inl (hF _ _ h1)))
          exact list_road I hF h2 rv ho hc hd c1 c2 hx.gd hu fin
        · cases e1
          subst e2
          cases ru
          obtain ⟨its, rv, ⟨o, n, ho, hc, _, hd⟩, _⟩ := I.list (.inl (.inl h1))
          exact list_road I hF h2 rv ho hc hd c1 c2 hx.gd hu fin
      | tuple xs =>
        rcases h with h | ⟨ds, a, vs, e1, e2, h1, h2⟩
        · obtain ⟨a, vs, rfl, h1, h2⟩ := DR.tuple_.mp h
          cases ru
          obtain ⟨its, rv, ⟨o, ho, hc, n, hd⟩, _⟩ := I.tuple (hF.t h1)
          exact tup_road I hF h2 rv ho hc hd c1 c2 hx.gd hu fin
        · cases e1
      | _ => exact absurd (.inl rfl) hl
  · cases hg
end
end Dk
set_option Elab.async false
set_option linter.all false
set_option maxRecDepth 100000
set_option maxHeartbeats 2000000
/-! Dm3: changes of memos. -/
namespace Dk
open PySem PySem.Spec PyProof.Rows L2
/-! the check of a memo whose size is given -/
def lawMemoD (size : Nat) : D → Bool
  | .tuple ns => decide (1 ≤ ns.length ∧ ns.length ≤ 24) && (nodesOk size 0 ns && (match maxI (partsLD ns) with | some k => decide (k ≤ 31) | none => false))
  | _ => false
theorem headD_at {ds : List D} {x : D} (h : ds[0]? = some x) : headD (.tuple ds) = some x := by
  cases ds with
  | nil => simp at h
  | cons a r => simp at h; subst h; rfl
theorem size_first {size : Nat} {ns : List D} (hn : ns ≠ []) (h : nodesOk size 0 ns = true) : sizeO (.tuple ns) = some size := by
  obtain ⟨d, hd⟩ : ∃ d, ns[0]? = some d := by
    cases ns with
    | nil => exact absurd rfl hn
    | cons a r => exact ⟨a, rfl⟩
  have h1 := nodesOk_at h hd
  obtain ⟨as, rfl, l1, l2, hal⟩ := isNode_alts h1
  obtain ⟨a, ha⟩ : ∃ a, as[0]? = some a := ⟨_, List.getElem?_eq_getElem (by omega)⟩
  obtain ⟨x, ks, rfl, _, _, _, hx⟩ := hal a (List.mem_of_getElem? ha)
  unfold sizeO
  rw [headD_at hd, Option.bind_some, headD_at ha, Option.bind_some]
  cases x with
  | tuple zs =>
    simp only [isAmts, Bool.and_eq_true, decide_eq_true_eq] at hx
    show some zs.length = some size
    rw [hx.1]
  | _ => cases hx
theorem lawMemo_eq {size : Nat} {v : D} (h : 1 ≤ size ∧ size ≤ 4) : lawMemoD size v = (isMemoD v && decide (sizeO v = some size)) := by
  by_cases hs : sizeO v = some size
  · rw [decide_eq_true hs, Bool.and_true]
    unfold isMemoD
    rw [hs]
    cases v with
    | tuple ns =>
      have h1 : 1 ≤ ns.length := by
        cases ns with
        | nil => cases hs
        | cons a r => simp
      simp only [lawMemoD]
      rw [decide_eq_true h, Bool.true_and, show decide (1 ≤ ns.length ∧ ns.length ≤ 24) = decide (ns.length ≤ 24) from decide_eq_decide.mpr ⟨fun c => c.2, fun c => ⟨h1, c⟩⟩]
      all_goals (cases maxI (partsLD ns) <;> rfl)
    | _ => cases hs
  · rw [decide_eq_false hs, Bool.and_false]
    cases v with
    | tuple ns =>
      simp only [lawMemoD]
      cases hb : nodesOk size 0 ns with
      | false => simp
      | true =>
        by_cases hl : 1 ≤ ns.length
        · exact absurd (size_first (fun e => by subst e; simp at hl) hb) hs
        · rw [decide_eq_false (by omega), Bool.false_and]
    | _ => rfl
def setD (xs : List D) (i : Nat) (x : D) : List D := xs.take i ++ x :: xs.drop (i + 1)
def sizeM (m : Memo) : Nat := (((m[0]?).bind fun n => n[0]?).map fun a => a.1.length).getD 0
def amtD (m : Memo) (a b c d : D) : Bool := match a with
  | .int i => if 0 ≤ i ∧ i < m.length then (match m[i.toNat]? with
    | some n => isInt b 0 (n.length - 1) && (isInt c 0 (sizeM m - 1) && isInt d 0 1000000)
    | none => false) else false
  | _ => false
def addB (m : Memo) (i : Int) (b : D) : D := .tuple (setD (m.map nodeD) i.toNat (.tuple (((m[i.toNat]?).getD []).map altD ++ [b])))
def secD : D → D
  | .tuple [_, y] => y
  | _ => .none
def renB (n : List Alt) (d : D) : Bool := PyData.eqv (.list (((altsD d).take n.length).map secD)) (.list (n.map fun a => .tuple (needsL a.2)))
def isRenD (m : Memo) (v : D) : Bool := isMemoD v && (decide ((altsD v).length = m.length) && (decide (sizeO v = some (sizeM m)) && (List.zipWith renB m (altsD v)).all id))
def isChangeD (m : Memo) : D → Bool
  | .tuple (.str x :: r) =>
    if x = ("amount" : Str) then (match r with | [a, b, c, d] => amtD m a b c d | _ => false)
    else if x = ("add" : Str) then (match r with | [.int i, b] => decide (0 ≤ i ∧ i < m.length) && isMemoD (addB m i b) | _ => false)
    else if x = ("memo" : Str) then (match r with | [a] => isRenD m a | _ => false)
    else false
  | _ => false
def amtB (m : Memo) (i j r : Int) (x : D) : D := match m[i.toNat]? with
  | some n => (match n[j.toNat]? with
    | some a => .tuple (setD (m.map nodeD) i.toNat (.tuple (setD (n.map altD) j.toNat (.tuple [.tuple (setD (a.1.map .int) r.toNat x), .tuple (needsL a.2)]))))
    | none => .none)
  | none => .none
def behindD (m : Memo) : D → D
  | .tuple [.str x, a] => a
  | .tuple [.str x, .int i, b] => addB m i b
  | .tuple [.str x, .int i, .int j, .int r, z] => amtB m i j r z
  | _ => .none
/-- memos whose changes are judged -/
structure MemJ (m : Memo) : Prop where
  n0 : m ≠ []
  n1 : m.length ≤ 24
  node : ∀ n ∈ m, n ≠ [] ∧ n.length ≤ 20 ∧ ∀ a ∈ n, a.1.length = sizeM m ∧ (∀ x ∈ a.1, 0 ≤ x ∧ x ≤ 1000000) ∧ a.2.length ≤ 2 ∧ ∀ x ∈ a.2, x ≤ 30
  size : 1 ≤ sizeM m ∧ sizeM m ≤ 4
theorem MemJ.first {m : Memo} (M : MemJ m) : ∃ n a, m[0]? = some n ∧ n[0]? = some a ∧ a.1.length = sizeM m := by
  obtain ⟨n, hn⟩ : ∃ n, m[0]? = some n := ⟨_, List.getElem?_eq_getElem (List.length_pos_iff.mpr M.n0)⟩
  obtain ⟨g0, _, g2⟩ := M.node n (List.mem_of_getElem? hn)
  obtain ⟨a, ha⟩ : ∃ a, n[0]? = some a := ⟨_, List.getElem?_eq_getElem (List.length_pos_iff.mpr g0)⟩
  exact ⟨n, a, hn, ha, (g2 a (List.mem_of_getElem? ha)).1⟩
/-- the first amounts stay behind an addition -/
theorem MemJ.addSize {m : Memo} (M : MemJ m) {i : Int} {b : D} (h0 : 0 ≤ i) (h1 : i < m.length) : sizeO (addB m i b) = some (sizeM m) := by
  obtain ⟨n, a, hn, ha, hs⟩ := M.first
  have key : ∃ r : List D × List D, addB m i b = .tuple (.tuple (altD a :: r.1) :: r.2) := by
    unfold addB setD
    obtain ⟨a', n', rfl⟩ : ∃ a' n', n = a' :: n' := by
      cases n with
      | nil => simp at ha
      | cons x y => exact ⟨x, y, rfl⟩
    obtain ⟨x, m', rfl⟩ : ∃ x m', m = x :: m' := by
      cases m with
      | nil => simp at hn
      | cons x y => exact ⟨x, y, rfl⟩
    simp at ha hn
    subst ha hn
    cases hi : i.toNat with
    | zero => exact ⟨(n'.map altD ++ [b], m'.map nodeD), by simp⟩
    | succ k => exact ⟨(n'.map altD, _), by simp [nodeD]; rfl⟩
  obtain ⟨r, e⟩ := key
  rw [e]
  show some (a.1.map PyData.int).length = _
  rw [List.length_map, hs]
end Dk
set_option Elab.async false
set_option linter.all false
set_option maxRecDepth 100000
set_option maxHeartbeats 2000000
/-! Dm4: specs of changes. -/
namespace Dk
open PySem PySem.Spec PyProof.Rows L2
def spWithNode : DSp := fun as pn P => ∃ (m : Memo) (i : Int) (x : D), as = [.val (memoD m), .val (.int i), .val x] ∧ m.length ≤ 24 ∧ 0 ≤ i ∧ i < m.length ∧ P (.tuple (setD (m.map nodeD) i.toNat x)) pn
def spWithAmount : DSp := fun as pn P => ∃ (m : Memo) (i j r : Int) (x : D), as = [.val (memoD m), .val (.int i), .val (.int j), .val (.int r), .val x] ∧ MemJ m ∧ 0 ≤ i ∧ i < m.length ∧ 0 ≤ j ∧ (∀ n, m[i.toNat]? = some n → j < n.length) ∧ 0 ≤ r ∧ r < sizeM m ∧ P (amtB m i j r x) pn
def spAmtChange : DSp := fun as pn P => ∃ (m : Memo) (a b c d : D), as = [.val (memoD m), .val a, .val b, .val c, .val d] ∧ MemJ m ∧ P (.bool (amtD m a b c d)) pn
def spRenewal : DSp := fun as pn P => ∃ (m : Memo) (v : D), as = [.val (memoD m), .val v] ∧ MemJ m ∧ P (.bool (isRenD m v)) pn
def spIsChange : DSp := fun as pn P => ∃ (m : Memo) (v : D), as = [.val (memoD m), .val v] ∧ MemJ m ∧ P (.bool (isChangeD m v)) pn
def spBehind : DSp := fun as pn P => ∃ (m : Memo) (v : D), as = [.val (memoD m), .val v] ∧ MemJ m ∧ isChangeD m v = true ∧ P (behindD m v) pn
/-- what stands behind an addition, before it is judged -/
def spBehindL : DSp := fun as pn P => ∃ (m : Memo) (v : D), as = [.val (memoD m), .val v] ∧ MemJ m ∧ (isChangeD m v = true ∨ ∃ (i : Int) (b : D), v = .tuple [.str ("add" : Str), .int i, b] ∧ 0 ≤ i ∧ i < m.length) ∧ P (behindD m v) pn
def spLawMemo : DSp := fun as pn P => ∃ (v : D) (size : Nat), as = [.val v, .val (.int size)] ∧ P (.bool (lawMemoD size v)) pn
def spLawAlt : DSp := fun as pn P => ∃ (node size : Nat) (v : D), as = [.val (.int size), .val (.int node), .val v] ∧ P (.bool (isAltD node size v)) pn
def spJudged : DSp := fun as pn P => ∃ (m : Memo) (v : D), as = [.val (memoD m), .val v] ∧ MemJ m ∧ reprOkZ (.tuple [memoD m, v]) ∧ P (.bool true) pn
theorem MemJ.at {m : Memo} (M : MemJ m) {i : Int} (h0 : 0 ≤ i) (h1 : i < m.length) : ∃ n, m[i.toNat]? = some n ∧ n ≠ [] ∧ n.length ≤ 20 ∧ ∀ a ∈ n, a.1.length = sizeM m ∧ (∀ x ∈ a.1, 0 ≤ x ∧ x ≤ 1000000) ∧ a.2.length ≤ 2 ∧ ∀ x ∈ a.2, x ≤ 30 := by
  obtain ⟨n, hn⟩ : ∃ n, m[i.toNat]? = some n := ⟨_, List.getElem?_eq_getElem (by omega)⟩
  exact ⟨n, hn, M.node n (List.mem_of_getElem? hn)⟩
end Dk
set_option Elab.async false
set_option linter.all false
set_option maxRecDepth 100000
set_option maxHeartbeats 2000000
/-! Dx8: four targets at once. -/
namespace Dk
open PySem PySem.Spec PyProof.Rows L2
variable {S : Type} [StK S]
section
variable {X : Cx} {e a b c d : Expr} {ta : (AW S)} {pos : Pos} {k : Nat}
def dPar4 (i j l m : Nat) (ta : (AW S)) : (DS S) := fun E ρ => ta ρ fun ks ρ1 => gets (tmps ks) fun rs => match rs with
  | [r1, r2, r3, r4] => E.nx { ρ1 with sl := (((ρ1.sl.set i r1.sl).set j r2.sl).set l r3.sl).set m r4.sl }
  | _ => False
theorem par4_step {K : Fg} {i j l m : Nat} {Z : Ends} {σ : L2.St} {H : Hp} (hij : i ≠ j) (hil : i ≠ l) (hjl : j ≠ l) (him : i ≠ m) (hjm : j ≠ m) (hlm : l ≠ m) (hi : i < σ.length) (hj : j < σ.length) (hl' : l < σ.length) (hm' : m < σ.length) (h : liftS K (dPar4 i j l m ta) Z σ H) :
    liftA K ta σ H fun vs H1 => ∃ v w x y, vs = [v, w, x, y] ∧ ∀ q, H1 q = none → Z.nx ((((σ.set i (some v)).set j (some w)).set l (some x)).set m (some y)) (upd H1 q (.tup [v, w, x, y])) := by
  obtain ⟨B, pa, τ, F, ρ, θ, E, R, hl, h, q⟩ := h
  refine ⟨B, pa, τ, F, ρ, θ, _, R, hl, h, fun ks ρ1 vs H1 F1 h1 l1 hk R1 _ => ?_⟩
  obtain ⟨rs, e1, h1⟩ := gets_elim h1
  have e2 := tmps_eq e1
  subst e2
  match rs, vs, h1, hk, R1 with
  | [r1, r2, r3, r4], [v, w, x, y], h1, _, R1 =>
    have R2 : Rel K B pa (σ ++ τ ++ [some v] ++ [some w] ++ [some x] ++ [some y]) H1 F1 (ρ1.sl ++ θ ++ [r1.sl] ++ [r2.sl] ++ [r3.sl] ++ [r4.sl]) ρ1.pn := by simpa [Tk.sl] using R1
    have fin : ∀ H2, Rel K B pa (σ ++ τ ++ [some v] ++ [some w] ++ [some x] ++ [some y]) H2 F1 (ρ1.sl ++ θ ++ [r1.sl] ++ [r2.sl] ++ [r3.sl] ++ [r4.sl]) ρ1.pn → Z.nx ((((σ.set i (some v)).set j (some w)).set l (some x)).set m (some y)) H2 := fun H2 R2 => by
      have R3 := R2.move (i := m) (by simp; omega)
      rw [List.append_assoc, List.append_assoc, List.append_assoc σ, List.append_assoc, List.append_assoc, List.append_assoc ρ1.sl, List.set_append_left _ _ hm', List.set_append_left _ _ (by omega), ← List.append_assoc, ← List.append_assoc, ← List.append_assoc, ← List.append_assoc, ← List.append_assoc, ← List.append_assoc] at R3
      have R4 := R3.move (i := l) (by simp; omega)
      rw [List.append_assoc, List.append_assoc, List.append_assoc, List.append_assoc, List.set_append_left _ _ (by simpa using hl'), List.set_append_left _ _ (by simp; omega), ← List.append_assoc, ← List.append_assoc, ← List.append_assoc, ← List.append_assoc] at R4
      have R5 := R4.move (i := j) (by simp; omega)
      rw [List.append_assoc, List.append_assoc, List.set_append_left _ _ (by simpa using hj), List.set_append_left _ _ (by simp; omega), ← List.append_assoc, ← List.append_assoc] at R5
      have R6 := R5.move (i := i) (by simp; omega)
      rw [List.set_append_left _ _ (by simpa using hi), List.set_append_left _ _ (by simp; omega)] at R6
      have es : ∀ {α : Type} (xs : List α) (x y z u : α), (((xs.set m u).set l z).set j y).set i x = (((xs.set i x).set j y).set l z).set m u := fun xs x y z u => by
        rw [List.set_comm (l := (xs.set m u).set l z) y x hij.symm, List.set_comm (l := xs.set m u) z x hil.symm, List.set_comm (l := xs) u x him.symm,
          List.set_comm (l := (xs.set i x).set m u) z y hjl.symm, List.set_comm (l := xs.set i x) u y hjm.symm, List.set_comm (l := (xs.set i x).set j y) u z hlm.symm]
      rw [es, es] at R6
      exact q.nx _ { ρ1 with sl := (((ρ1.sl.set i r1.sl).set j r2.sl).set l r3.sl).set m r4.sl } H2 F1 h1 (by simp) (by simpa using l1) R6
    exact ⟨v, w, x, y, rfl, fun q hq => fin _ (R2.grow (le_upd hq) (Le.refl _) (R2.fh.trans (le_upd hq)) (fun b u e => .inl e) (R2.sz.upT (by show 4 ≤ sizeLine; decide)))⟩
theorem cs_par4t (i j l m : Nat) {x y z u : Str} {px py pz pu pt : Pos} {kt k2 pt2} (hx0 : XO X k) (ha : CA (S := S) X [a, b, c, d] ta) (hij : i ≠ j := by decide) (hil : i ≠ l := by decide) (hjl : j ≠ l := by decide) (him : i ≠ m := by decide) (hjm : j ≠ m := by decide) (hlm : l ≠ m := by decide)
    (hi : X.N[i]? = some x := by rfl) (hj : X.N[j]? = some y := by rfl) (hl : X.N[l]? = some z := by rfl) (hm : X.N[m]? = some u := by rfl)
    (hx : L2.Loc X.env.scope x := by first | exact .inl rfl | exact .inr rfl) (hy : L2.Loc X.env.scope y := by first | exact .inl rfl | exact .inr rfl) (hz : L2.Loc X.env.scope z := by first | exact .inl rfl | exact .inr rfl) (hu : L2.Loc X.env.scope u := by first | exact .inl rfl | exact .inr rfl)
    (hf : X.fn x = true ∨ X.env.scope.names.lookup x = some .local := by first | exact .inl rfl | exact .inr rfl) (hf2 : X.fn y = true ∨ X.env.scope.names.lookup y = some .local := by first | exact .inl rfl | exact .inr rfl) (hf3 : X.fn z = true ∨ X.env.scope.names.lookup z = some .local := by first | exact .inl rfl | exact .inr rfl) (hf4 : X.fn u = true ∨ X.env.scope.names.lookup u = some .local := by first | exact .inl rfl | exact .inr rfl)
    (hs : swapsWithSole [.Tuple [.Name x px, .Name y py, .Name z pz, .Name u pu] kt pt] (.Tuple [a, b, c, d] k2 pt2) pos.line X.env = pure false := by rfl) (hw : swappedStores [.Tuple [.Name x px, .Name y py, .Name z pz, .Name u pu] kt pt] (.Tuple [a, b, c, d] k2 pt2) X.env = pure none := by rfl) :
    CS (S := S) X (.Assign [.Tuple [.Name x px, .Name y py, .Name z pz, .Name u pu] kt pt] (.Tuple [a, b, c, d] k2 pt2) pos) (dPar4 i j l m ta) := by
  refine ⟨fun pins s σ H Z I h => ?_⟩
  refine (ps_asg (pe_tup ha) (pg_tup hx0.calm (pgs_cons (pg_name hx0.nd hi hx hf) (pgs_cons (pg_name hx0.nd hj hy hf2) (pgs_cons (pg_name hx0.nd hl hz hf3) (pgs_cons (pg_name hx0.nd hm hu hf4) pgs_nil))))) hs hw).run pins s σ H Z I ?_
  obtain ⟨B, pa, τ, F, ρ, θ, P, R, hl, h, q⟩ := par4_step hij hil hjl him hjm hlm (by rw [I.len]; exact (List.getElem?_eq_some_iff.mp hi).1) (by rw [I.len]; exact (List.getElem?_eq_some_iff.mp hj).1) (by rw [I.len]; exact (List.getElem?_eq_some_iff.mp hl).1) (by rw [I.len]; exact (List.getElem?_eq_some_iff.mp hm).1) h
  refine ⟨B, pa, τ, F, ρ, θ, P, R, hl, h, fun ks ρ1 vs H1 F1 h1 l1 hk R1 s1 => ?_⟩
  obtain ⟨v, w, x, y, e, z⟩ := q ks ρ1 vs H1 F1 h1 l1 hk R1 s1
  subst e
  exact ⟨by show 4 ≤ sizeLine; decide, fun q hq => ⟨q, [v, w, x, y], rfl, .inl (.inl upd_same), rfl, v, [w, x, y], rfl, w, [x, y], rfl, x, [y], rfl, y, [], rfl, rfl, z q hq⟩⟩
end
section
variable {E : (DE S)} {s0 : Sl} {l0 : List Sl} {pn : S} {aa : (AW S)} {i j l n : Nat}
@[simp↓] theorem z_dPar4 : dPar4 i j l n aa E ⟨s0 :: l0, pn⟩ = aa ⟨s0 :: l0, pn⟩ fun ks ρ1 => gets (tmps ks) fun rs => match rs with
  | [r1, r2, r3, r4] => E.nx ⟨(((ρ1.sl.set i r1.sl).set j r2.sl).set l r3.sl).set n r4.sl, ρ1.pn⟩
  | _ => False := rfl
end
end Dk
set_option Elab.async false
set_option linter.all false
set_option maxRecDepth 100000
set_option maxHeartbeats 2000000
/-! Dn1: what may be shown, lists within; bent values; memos drawn with a bound on plans. -/
namespace Dk
open PySem PySem.Spec PyProof.Rows L2
structure Vz (W h : Nat) (d : D) : Prop where
  sh : d.showable = true
  w : wgt d ≤ W
  dp : d.depth ≤ h
theorem Vz.mono {W h W' h' : Nat} {d : D} (c : Vz W h d) (hw : W ≤ W') (hh : h ≤ h') : Vz W' h' d := ⟨c.sh, Nat.le_trans c.w hw, Nat.le_trans c.dp hh⟩
theorem Vw.vz {W h : Nat} {d : D} (c : Vw W h d) : Vz W h d := ⟨c.sh, c.w, c.dp⟩
theorem Vz.repr {W h : Nat} {d : D} (c : Vz W h d) (hw : W ≤ 16777216) (hh : h ≤ 100) : reprOkZ d := ⟨c.sh, Nat.le_trans (shown_le d) (Nat.le_trans c.w (by rw [sizeLine_eq]; exact hw)), Nat.le_trans c.dp hh⟩
/-- a list or a tuple -/
def mkK (t : Bool) (xs : List D) : D := if t then .tuple xs else .list xs
theorem showK {t : Bool} {xs : List D} : (mkK t xs).showable = PyData.showableAll xs := by cases t <;> rfl
theorem wgtK {t : Bool} {xs : List D} : wgt (mkK t xs) = wgts xs + 3 := by cases t; exact wgt_list; exact wgt_tuple
theorem depthK {t : Bool} {xs : List D} : (mkK t xs).depth = PyData.depthAll xs + 1 := by cases t; exact depth_list; exact depth_tuple
theorem Vz.all {W h : Nat} {t : Bool} {xs : List D} (hs : ∀ d ∈ xs, d.showable = true) (hw : wgts xs + 3 ≤ W) (hh : ∀ d ∈ xs, d.depth + 1 ≤ h) (h1 : 1 ≤ h) : Vz W h (mkK t xs) := ⟨by rw [showK]; exact showA_iff.mpr hs, by rw [wgtK]; exact hw, by
  rw [depthK]
  have : PyData.depthAll xs ≤ h - 1 := depthAll_le.mpr fun d hd => by have := hh d hd; omega
  omega⟩
def vz (W h : Nat) (d : D) : Bool := d.showable && decide (wgt d ≤ W) && decide (d.depth ≤ h)
theorem Vz.of {W h : Nat} {d : D} (c : vz W h d = true) : Vz W h d := by
  simp only [vz, Bool.and_eq_true, decide_eq_true_eq] at c
  exact ⟨c.1.1, c.1.2, c.2⟩
/-! values that are bent: ints of a bound, texts, nones, tuples and lists of them; no truths, no dicts -/
mutual
def bz : D → Bool
  | .none => true
  | .bool _ => false
  | .int i => decide (i.natAbs < 10 ^ 400)
  | .str _ => true
  | .list ds => decide (ds.length ≤ 3000) && bzA ds
  | .tuple ds => decide (ds.length ≤ 3000) && bzA ds
  | .dict _ => false
def bzA : List D → Bool
  | [] => true
  | d :: ds => bz d && bzA ds
end
theorem bz_k {t : Bool} {ds : List D} : bz (mkK t ds) = true ↔ ds.length ≤ 3000 ∧ bzA ds = true := by
  cases t <;> simp only [mkK, bz, Bool.and_eq_true, decide_eq_true_eq, Bool.false_eq_true, if_true, if_false]
theorem bzA_iff : ∀ {ds : List D}, bzA ds = true ↔ ∀ d ∈ ds, bz d = true
  | [] => by simp [bzA]
  | d :: ds => by
    rw [bzA, Bool.and_eq_true, bzA_iff]
    simp
theorem show_big {i : Int} (h : i.natAbs < 10 ^ 404) : (PyData.int i).showable = true := by
  show decide (i.natAbs.log2 < 1920) = true
  rw [decide_eq_true_eq]
  by_cases h0 : i.natAbs = 0
  · rw [h0]; decide
  · have : i.natAbs.log2 < 1400 := (Nat.log2_lt h0).mpr (Nat.lt_of_lt_of_le h (by decide +kernel))
    omega
mutual
theorem bz_show : ∀ {d : D}, bz d = true → d.showable = true
  | .none, _ => rfl
  | .bool b, _ => rfl
  | .int i, h => by
    rw [bz, decide_eq_true_eq] at h
    exact show_big (Nat.lt_of_lt_of_le h (by decide +kernel))
  | .str x, _ => rfl
  | .list ds, h => by
    rw [bz, Bool.and_eq_true] at h
    exact bzA_show h.2
  | .tuple ds, h => by
    rw [bz, Bool.and_eq_true] at h
    exact bzA_show h.2
  | .dict kvs, h => by rw [bz] at h; cases h
theorem bzA_show : ∀ {ds : List D}, bzA ds = true → PyData.showableAll ds = true
  | [], _ => rfl
  | d :: ds, h => by
    rw [bzA, Bool.and_eq_true] at h
    rw [PyData.showableAll, bz_show h.1, bzA_show h.2]
    rfl
end
theorem bz_vz {v : D} (h : bz v = true) : Vz (wgt v) v.depth v := ⟨bz_show h, Nat.le_refl _, Nat.le_refl _⟩
theorem vz_int {i : Int} {W h : Nat} (hi : i.natAbs < 10 ^ 404) (hW : 405 ≤ W) : Vz W h (.int i) := ⟨show_big hi, Nat.le_trans (wgt_int (by decide) hi) hW, Nat.zero_le _⟩
theorem vz_bool {b : Bool} {W h : Nat} (hW : 13 ≤ W) : Vz W h (.bool b) := (vw_bool hW).vz
@[simp] theorem eqOk_bool {a b : Bool} : eqOk (.bool a) (.bool b) = true := by cases a <;> cases b <;> rfl
@[simp] theorem eqv_bool {a b : Bool} : PyData.eqv (.bool a) (.bool b) = (a == b) := by cases a <;> cases b <;> rfl
def oddZ : List D := [.none, .bool true, .bool false, .int 0, .int 1, .int (-1), .str "", .str "a", .tuple [], .list [], .dict [], .tuple [.int 0], .list [.tuple []], .tuple [.tuple []], .int 99, .int 100000000000000000000]
theorem odd_vz : ∀ d ∈ oddZ, Vz 40 3 d := fun d h => Vz.of (List.all_eq_true.mp (show (oddZ.all (vz 40 3)) = true by decide +kernel) d h)
def spOddZ : DSp := fun as pn P => ∃ (p : Pen) (b : Nat), as = [.pen] ∧ pn = some p ∧ Bud p (b + 1) ∧ ∀ d p', Vz 40 3 d → Bud p' b → P d (some p')
def spBentZ (f : Nat) : DSp := fun as pn P => ∃ (p : Pen) (v : D) (b : Nat), as = [.pen, .val v] ∧ bz v = true ∧ v.depth < f ∧ f ≤ 90 ∧ wgt v ≤ 10000000 ∧ pn = some p ∧ Bud p (b + 6 * f) ∧ ∀ d p', Vz (2 * wgt v + 500) (v.depth + 6) d → Bud p' b → P d (some p')
theorem cmulBig {i : Int} (h : i.natAbs < 10 ^ 400) : CMulW i 1000 := by
  unfold CMulW
  have h1 : i.natAbs.log2 < 1400 := by
    by_cases h0 : i.natAbs = 0
    · rw [h0]; decide
    · exact (Nat.log2_lt h0).mpr (Nat.lt_of_lt_of_le h (by decide +kernel))
  have h2 : (1000 : Int).natAbs.log2 = 9 := by decide
  omega
/-! amounts, memos -/
def spAmountsW : DSp := fun as pn P => ∃ (p : Pen) (size : Nat) (wide : Int) (b : Nat), as = [.pen, .val (.int size), .val (.int wide)] ∧ size ≤ 4 ∧ 0 ≤ wide ∧ wide ≤ 30000 ∧ pn = some p ∧ Bud p (b + 4 * size) ∧
  ∀ (ns : List Int) p', ns.length = size → (∀ x ∈ ns, 0 ≤ x ∧ x ≤ 29 * wide) → Bud p' b → P (.tuple (ns.map .int)) (some p')
/-- the number of draws that a memo costs at most -/
def costW (N : Nat) : Nat := 2 + N * 281
def spDrawMemoW : DSp := fun as pn P => ∃ (p : Pen) (N : Nat) (M wide : Int) (b : Nat), as = [.pen, .val (.int N), .val (.int M), .val (.int wide)] ∧ 0 < N ∧ N ≤ 24 ∧ 1 ≤ M ∧ M ≤ 1000000 ∧ 0 ≤ wide ∧ wide ≤ 30000 ∧ pn = some p ∧ Bud p (b + costW N) ∧
  ∀ (m : Memo) (size : Nat) p', m ≠ [] → m.length ≤ N → 1 ≤ size → size ≤ 4 → Fine size 14 (M + 14) m → (∀ n ∈ m, ∀ a ∈ n, ∀ x ∈ a.1, x ≤ 29 * wide) → Bud p' b → P (memoD m) (some p')
theorem partsN_snoc {ps : List Int} {n : List Alt} {a : Alt} (h : n ≠ []) : partsN ps (n ++ [a]) = max (partsN ps n) (1 + sN ps a.2) := by
  unfold partsN
  rw [List.map_append]
  generalize hx : n.map (fun a => sN ps a.2) = xs
  have hx0 : xs ≠ [] := fun e => h (by rw [← hx] at e; exact List.map_eq_nil_iff.mp e)
  cases e : maxI xs with
  | none => cases xs with
    | nil => exact absurd rfl hx0
    | cons y r => cases e
  | some k =>
    obtain ⟨h1, h2⟩ := maxI_spec e
    cases e2 : maxI (xs ++ [a].map fun a => sN ps a.2) with
    | none => cases xs with
      | nil => exact absurd rfl hx0
      | cons y r => cases e2
    | some j =>
      obtain ⟨g1, g2⟩ := maxI_spec e2
      have g3 := g2 k (List.mem_append_left _ h1)
      have g4 := g2 (sN ps a.2) (by simp)
      show 1 + j = max (1 + k) (1 + sN ps a.2)
      rcases List.mem_append.mp g1 with g | g
      · have := h2 j g; omega
      · simp at g; omega
end Dk
set_option Elab.async false
set_option linter.all false
set_option maxRecDepth 100000
set_option maxHeartbeats 2000000
/-! Dn2: changes that are drawn. -/
namespace Dk
open PySem PySem.Spec PyProof.Rows L2
structure Bm (c h : Nat) (d : D) : Prop where
  p : bz d = true
  w : wgt d ≤ c
  dp : d.depth ≤ h
theorem Bm.mono {c h c' h' : Nat} {d : D} (s : Bm c h d) (hc : c ≤ c') (hh : h ≤ h') : Bm c' h' d := ⟨s.p, Nat.le_trans s.w hc, Nat.le_trans s.dp hh⟩
theorem Bm.vz {c h : Nat} {d : D} (s : Bm c h d) : Vz c h d := ⟨bz_show s.p, s.w, s.dp⟩
theorem Bm.tup {c h L : Nat} {xs : List D} (hx : ∀ d ∈ xs, Bm c h d) (hl : xs.length ≤ L) (hL : L ≤ 3000) : Bm (L * (c + 2) + 3) (h + 1) (.tuple xs) := by
  refine ⟨(bz_k (t := true)).mpr ⟨by omega, bzA_iff.mpr fun d hd => (hx d hd).p⟩, ?_, ?_⟩
  · rw [wgt_tuple]
    have := wgts_le fun d hd => (hx d hd).w
    have := Nat.mul_le_mul_right (c + 2) hl
    omega
  · rw [depth_tuple]
    have := depthAll_le.mpr fun d hd => (hx d hd).dp
    omega
theorem Bm.int {i : Int} (h : i.natAbs < 1000000000000) : Bm 13 0 (.int i) := ⟨by rw [bz, decide_eq_true_eq]; exact Nat.lt_of_lt_of_le h (by decide +kernel), wgt_small h, Nat.le_refl _⟩
theorem Bm.ints {is : List Int} {L : Nat} (h : ∀ i ∈ is, i.natAbs < 1000000000000) (hl : is.length ≤ L) (hL : L ≤ 3000) : Bm (L * 15 + 3) 1 (.tuple (is.map .int)) := Bm.tup (c := 13) (h := 0) (fun d hd => by
  obtain ⟨i, hi, rfl⟩ := List.mem_map.mp hd
  exact Bm.int (h i hi)) (by rw [List.length_map]; exact hl) hL
theorem Bm.needs {ns : List Nat} (h : ∀ x ∈ ns, x < 1000) (hl : ns.length ≤ 2) : Bm 33 1 (.tuple (needsL ns)) := Bm.tup (c := 13) (h := 0) (L := 2) (fun d hd => by
  unfold needsL at hd
  obtain ⟨i, hi, rfl⟩ := List.mem_map.mp hd
  exact Bm.int (by have := h i hi; omega)) (by unfold needsL; rw [List.length_map]; exact hl) (by decide)
theorem Bm.alt {a : Alt} (h1 : a.1.length ≤ 4) (h2 : ∀ x ∈ a.1, 0 ≤ x ∧ x ≤ 1000000) (h3 : a.2.length ≤ 2) (h4 : ∀ x ∈ a.2, x < 1000) : Bm 133 2 (altD a) := Bm.tup (c := 63) (h := 1) (L := 2) (fun d hd => by
  simp only [List.mem_cons, List.not_mem_nil, or_false] at hd
  rcases hd with rfl | rfl
  · exact Bm.ints (L := 4) (fun i hi => by have := h2 i hi; omega) h1 (by decide)
  · exact (Bm.needs h4 h3).mono (by decide) (by decide)) (by simp) (by decide)
theorem Bm.node {n : List Alt} (hl : n.length ≤ 21) (h : ∀ a ∈ n, Bm 133 2 (altD a)) : Bm 2838 3 (nodeD n) := Bm.tup (c := 133) (h := 2) (L := 21) (fun d hd => by
  obtain ⟨a, ha, rfl⟩ := List.mem_map.mp hd
  exact h a ha) (by rw [List.length_map]; exact hl) (by decide)
theorem Bm.memo {m : Memo} (hl : m.length ≤ 24) (h : ∀ n ∈ m, Bm 2838 3 (nodeD n)) : Bm 68163 4 (memoD m) := Bm.tup (c := 2838) (h := 3) (L := 24) (fun d hd => by
  obtain ⟨a, ha, rfl⟩ := List.mem_map.mp hd
  exact h a ha) (by rw [List.length_map]; exact hl) (by decide)
theorem MemJ.altB {m : Memo} (M : MemJ m) {n : List Alt} (hn : n ∈ m) {a : Alt} (ha : a ∈ n) : Bm 133 2 (altD a) := by
  obtain ⟨_, _, g⟩ := M.node n hn
  obtain ⟨g1, g2, g3, g4⟩ := g a ha
  have := M.size
  exact Bm.alt (by omega) g2 g3 (fun x hx => by have := g4 x hx; omega)
theorem MemJ.bm {m : Memo} (M : MemJ m) : Bm 68163 4 (memoD m) := Bm.memo M.n1 fun n hn => Bm.node (by have := (M.node n hn).2.1; omega) fun a ha => M.altB hn ha
theorem Fine.memJ {m : Memo} {size : Nat} {B : Int} (F : Fine size 14 B m) (h0 : m ≠ []) (h1 : m.length ≤ 24) (s0 : 1 ≤ size) (s1 : size ≤ 4) : MemJ m ∧ sizeM m = size := by
  have hs : sizeM m = size := by
    obtain ⟨n, hn⟩ : ∃ n, m[0]? = some n := ⟨_, List.getElem?_eq_getElem (List.length_pos_iff.mpr h0)⟩
    obtain ⟨g0, _, g2⟩ := F.node 0 n hn
    obtain ⟨a, ha⟩ : ∃ a, n[0]? = some a := ⟨_, List.getElem?_eq_getElem (List.length_pos_iff.mpr g0)⟩
    unfold sizeM
    rw [hn, Option.bind_some, ha]
    exact (g2 a (List.mem_of_getElem? ha)).1.1
  refine ⟨⟨h0, h1, fun n hn => ?_, by omega⟩, hs⟩
  obtain ⟨i, hi⟩ := List.mem_iff_getElem?.mp hn
  obtain ⟨g0, g1, g2⟩ := F.node i n hi
  have hl := (List.getElem?_eq_some_iff.mp hi).1
  refine ⟨g0, by omega, fun a ha => ?_⟩
  obtain ⟨⟨k1, k2⟩, k3, k4⟩ := g2 a ha
  exact ⟨by rw [hs]; exact k1, k2, k3, fun x hx => by have := k4 x hx; omega⟩
def AltB (size i : Nat) (a : Alt) : Prop := a.1.length = size ∧ (∀ x ∈ a.1, 0 ≤ x ∧ x ≤ 29) ∧ a.2.length ≤ 2 ∧ ∀ x ∈ a.2, x < i
def RenN (size i : Nat) (n n' : List Alt) : Prop := n.length ≤ n'.length ∧ n'.length ≤ n.length + 1 ∧ (∀ (j : Nat) a a', n[j]? = some a → n'[j]? = some a' → a'.2 = a.2 ∧ (a'.1 = a.1 ∨ (a'.1.length = size ∧ ∀ x ∈ a'.1, 0 ≤ x ∧ x ≤ 29))) ∧ ∀ (j : Nat) a', n.length ≤ j → n'[j]? = some a' → AltB size i a'
inductive ChgT (m : Memo) : D → Prop
  | amt (i j r : Nat) (x : Int) (n : List Alt) : m[i]? = some n → j < n.length → r < sizeM m → 0 ≤ x → x ≤ 1000000 → ChgT m (.tuple [.str ("amount" : Str), .int i, .int j, .int r, .int x])
  | add (i : Nat) (a : Alt) : i < m.length → AltB (sizeM m) i a → ChgT m (.tuple [.str ("add" : Str), .int i, altD a])
  | memo (m' : Memo) : m'.length = m.length → (∀ (i : Nat) n n', m[i]? = some n → m'[i]? = some n' → RenN (sizeM m) i n n') → ChgT m (.tuple [.str ("memo" : Str), memoD m'])
theorem Bm.str {x : Str} {c : Nat} (h : (PyData.str x).shown.length ≤ c) : Bm c 0 (.str x) := ⟨rfl, by rw [wgt]; exact h, Nat.le_refl _⟩
theorem RenN.bm {m : Memo} (M : MemJ m) {i : Nat} {n n' : List Alt} (hn : m[i]? = some n) (R : RenN (sizeM m) i n n') : Bm 2838 3 (nodeD n') := by
  obtain ⟨r1, r2, r3, r4⟩ := R
  have hmem := List.mem_of_getElem? hn
  obtain ⟨g0, g1, g2⟩ := M.node n hmem
  have hil := (List.getElem?_eq_some_iff.mp hn).1
  have := M.n1
  have := M.size
  refine Bm.node (by omega) fun a' ha' => ?_
  obtain ⟨j, hj⟩ := List.mem_iff_getElem?.mp ha'
  by_cases hjl : j < n.length
  · obtain ⟨a, ha⟩ : ∃ a, n[j]? = some a := ⟨_, List.getElem?_eq_getElem hjl⟩
    obtain ⟨e2, e1⟩ := r3 j a a' ha hj
    obtain ⟨k1, k2, k3, k4⟩ := g2 a (List.mem_of_getElem? ha)
    rcases e1 with e1 | ⟨e1, e3⟩
    · exact Bm.alt (by rw [e1]; omega) (by rw [e1]; exact k2) (by rw [e2]; exact k3) (by rw [e2]; exact fun x hx => by have := k4 x hx; omega)
    · exact Bm.alt (by omega) (fun x hx => by have := e3 x hx; omega) (by rw [e2]; exact k3) (by rw [e2]; exact fun x hx => by have := k4 x hx; omega)
  · obtain ⟨k1, k2, k3, k4⟩ := r4 j a' (by omega) hj
    exact Bm.alt (by omega) (fun x hx => by have := k2 x hx; omega) k3 (fun x hx => by have := k4 x hx; omega)
theorem ChgT.bm {m : Memo} (M : MemJ m) {d : D} (h : ChgT m d) : Bm 136333 5 d ∧ ∃ x r, d = .tuple (.str x :: r) := by
  have hm := M.n1
  have hs := M.size
  cases h with
  | amt i j r x n hn hj hr x0 x1 =>
    have hil := (List.getElem?_eq_some_iff.mp hn).1
    have := (M.node n (List.mem_of_getElem? hn)).2.1
    refine ⟨(Bm.tup (c := 13) (h := 0) (L := 5) (fun d hd => ?_) (by simp) (by decide)).mono (by decide) (by decide), _, _, rfl⟩
    simp only [List.mem_cons, List.not_mem_nil, or_false] at hd
    rcases hd with rfl | rfl | rfl | rfl | rfl
    · exact Bm.str (by decide +kernel)
    all_goals exact Bm.int (by omega)
  | add i a hi ha =>
    obtain ⟨k1, k2, k3, k4⟩ := ha
    refine ⟨(Bm.tup (c := 133) (h := 2) (L := 3) (fun d hd => ?_) (by simp) (by decide)).mono (by decide) (by decide), _, _, rfl⟩
    simp only [List.mem_cons, List.not_mem_nil, or_false] at hd
    rcases hd with rfl | rfl | rfl
    · exact Bm.mono (Bm.str (c := 13) (by decide +kernel)) (by decide) (by decide)
    · exact (Bm.int (by omega)).mono (by decide) (by decide)
    · exact Bm.alt (by omega) (fun x hx => by have := k2 x hx; omega) k3 (fun x hx => by have := k4 x hx; omega)
  | memo m' hl hr =>
    refine ⟨(Bm.tup (c := 68163) (h := 4) (L := 2) (fun d hd => ?_) (by simp) (by decide)).mono (by decide) (by decide), _, _, rfl⟩
    simp only [List.mem_cons, List.not_mem_nil, or_false] at hd
    rcases hd with rfl | rfl
    · exact Bm.mono (Bm.str (c := 13) (by decide +kernel)) (by decide) (by decide)
    · refine Bm.memo (by omega) fun n' hn' => ?_
      obtain ⟨i, hi⟩ := List.mem_iff_getElem?.mp hn'
      obtain ⟨n, hn⟩ : ∃ n, m[i]? = some n := ⟨_, List.getElem?_eq_getElem (by have := (List.getElem?_eq_some_iff.mp hi).1; omega)⟩
      exact (hr i n n' hn hi).bm M hn
def costC : Nat := 10000
def spDrawChange : DSp := fun as pn P => ∃ (p : Pen) (m : Memo) (b : Nat), as = [.pen, .val (memoD m)] ∧ MemJ m ∧ pn = some p ∧ Bud p (b + costC) ∧ ∀ d p', ChgT m d → Bud p' b → P d (some p')
/-! a text cut behind a statement, by what holds there -/
section
variable {t u v r : DS} {E : DE} {ρ : En}
theorem cut1 (Mid : En → Prop) (h1 : ∀ T : En → Prop, (∀ ρ', Mid ρ' → T ρ') → t { E with nx := T } ρ) (h2 : ∀ ρ', Mid ρ' → r E ρ') : sCons t r E ρ := h1 _ h2
theorem cut2 (Mid : En → Prop) (h1 : ∀ T : En → Prop, (∀ ρ', Mid ρ' → T ρ') → sCons t u { E with nx := T } ρ) (h2 : ∀ ρ', Mid ρ' → r E ρ') : sCons t (sCons u r) E ρ := h1 (fun ρ' => r E ρ') h2
theorem cut3 (Mid : En → Prop) (h1 : ∀ T : En → Prop, (∀ ρ', Mid ρ' → T ρ') → sCons t (sCons u v) { E with nx := T } ρ) (h2 : ∀ ρ', Mid ρ' → r E ρ') : sCons t (sCons u (sCons v r)) E ρ := h1 (fun ρ' => r E ρ') h2
end
end Dk
set_option Elab.async false
set_option linter.all false
set_option maxRecDepth 100000
set_option maxHeartbeats 2000000
/-! Dx9: sorted(list), xs.insert(i, e), x //= e. -/
namespace Dk
open PySem PySem.Spec PyProof.Rows L2
variable {S : Type} [StK S]
/-! ### sorted -/
def leD0 (a b : D) : Bool := !PySem.W.dataLt b a
def sortD (ds : List D) : List D := ds.mergeSort leD0
def sortOk (ds : List D) : Prop := PySem.W.AllAlike ds ∧ PySem.W.Sortable ds ∧ ∀ d ∈ ds, d.depth ≤ 64
open Classical in
noncomputable def sortedD : List D → Option Rs
  | [.list ds] => if sortOk ds then some (.own (sortD ds)) else none
  | _ => none
open Classical in
@[simp↓] theorem g_sortedL {xs : List D} {k : Rs → Prop} : gets (sortedD [.list xs]) k = (sortOk xs ∧ k (.own (sortD xs))) := by unfold sortedD; exact g_ite
theorem each_zip {K : Fg} {F : Hp} {R : Value → D × V → Prop} (hR : ∀ v (d : D) (w : V), DR K F d w → RelV w v → R v (d, w)) : ∀ {ds : List D} {ws : List V} {vs : List Value}, DRs K F ds ws → Vals ws vs → PySem.W.EachIs R vs (ds.zip ws)
  | [], ws, vs, h, r => by
    rw [DRs.nil_.mp h] at r
    cases r
    exact .nil
  | d :: ds, ws, vs, h, r => by
    obtain ⟨w, wr, rfl, h2, h3⟩ := DRs.cons_.mp h
    cases r with
    | cons r1 r2 => exact .cons (hR _ _ _ h2 r1) (each_zip hR h3 r2)
theorem zip_fst {K : Fg} {F : Hp} : ∀ {ds : List D} {ws : List V}, DRs K F ds ws → (ds.zip ws).map Prod.fst = ds
  | [], ws, h => rfl
  | d :: ds, ws, h => by
    obtain ⟨w, wr, rfl, h2, h3⟩ := DRs.cons_.mp h
    rw [List.zip_cons_cons, List.map_cons, zip_fst h3]
theorem each_back {K : Fg} {F : Hp} : ∀ {vs : List Value} {bs : List (D × V)}, PySem.W.EachIs (fun v b => DR K F b.1 b.2 ∧ RelV b.2 v) vs bs → DRs K F (bs.map Prod.fst) (bs.map Prod.snd) ∧ Vals (bs.map Prod.snd) vs
  | _, _, .nil => ⟨.nil, .nil⟩
  | _, _, .cons h r => ⟨.cons h.1 (each_back r).1, .cons h.2 (each_back r).2⟩
open Classical in
theorem cd_sorted {X : Cx} {k : Nat} (hx : XO X k) : CallD X (.builtin "sorted") sortedD := by
  intro pins s σ H xs us Q I rv ⟨F, ds, r, ⟨hz0, hF⟩, hd, hg, q⟩
  unfold sortedD at hg
  split at hg
  · obtain ⟨⟨c1, c2, c3⟩, rfl⟩ := some_ite hg
    rename_i ds
    obtain ⟨v, rfl, h⟩ := hd.one
    obtain ⟨a, ws, rfl, ha, ra⟩ := h.list hF
    obtain ⟨its, rvs, hl, hz⟩ := I.list (.inl (.inl ha))
    rw [Vals.ref1 rv]
    have e := each_zip (K := X.K) (F := F) (R := fun v b => DR X.K F b.1 b.2 ∧ RelV b.2 v) (fun v d w h1 h2 => ⟨h1, h2⟩) ra rvs
    have er := each_zip (K := X.K) (F := F) (R := fun v b => ∃ as, Reads s.heap v (Prod.fst b) as) (fun v d w h1 h2 => by
      obtain ⟨as, r, _⟩ := DR.reads I hF d w v h1 h2
      exact ⟨as, r⟩) ra rvs
    have ef := zip_fst ra
    have hlen : (ds.zip ws).length = ds.length := by rw [← List.length_map (f := Prod.fst), ef]
    have hun := hx.room.un
    refine PySem.W.sorted_data (enc := Prod.fst) hl.isList e er (by rw [ef]; exact c1) (by rw [ef]; exact c2) (by rw [hlen, ← ra.len]; exact hz) (fun b hb => ?_) fun out ho eo => ?_
    · have := c3 b.1 (by rw [← ef]; exact List.mem_map.mpr ⟨b, hb, rfl⟩)
      omega
    · obtain ⟨ep, he'⟩ := PyProof.Rows.sortedAll_at s.heap its out.toArray
      obtain ⟨k1, k2⟩ := each_back eo
      have em : ((ds.zip ws).mergeSort (PySem.W.dataLe false Prod.fst)).map Prod.fst = sortD ds := by
        unfold sortD
        have e9 := List.map_mergeSort (r := PySem.W.dataLe false Prod.fst) (s := leD0) (f := Prod.fst) (l := ds.zip ws) (fun a _ b _ => rfl)
        rw [e9, ef]
      rw [em] at k1
      have hl2 : (((ds.zip ws).mergeSort (PySem.W.dataLe false Prod.fst)).map Prod.snd).length ≤ sizeLine := by
        rw [List.length_map, List.length_mergeSort, hlen, ← ra.len]; exact hz
      exact ⟨.ref _, upd H (s.heap.objs.size + 1) (.lst (((ds.zip ws).mergeSort (PySem.W.dataLe false Prod.fst)).map Prod.snd)), I.laid (t' := s.toks) (fun _ _ => PyProof.Rows.sortedAll_old) (Nat.le_succ _) ⟨hl2, out, ep, k2, he'⟩, rfl, q _ _ k1 hl2 (I.hok.fresh (Nat.le_succ _))⟩
  · cases hg
/-! ### x //= e -/
section
variable {X : Cx} {e a b c : Expr} {te : (DW S)} {ta : (AW S)} {pos p p2 p1 : Pos} {k : Nat} {t u : (OW S)}
def dAugC (i : Nat) (C : Int → Int → Prop) (f : Int → Int → Int) (t : (DW S)) : (DS S) := fun E ρ => gets (((ρ.sl[i]?).bind Sl.rd).bind D.int?) fun a => t ρ fun r ρ1 => gets (D.int? r.d) fun b => C a b ∧ E.nx { ρ1 with sl := ρ1.sl.set i (.val (.int (f a b))) }
def ipC (C : Int → Int → Prop) (f : Int → Int → Int) : TIp := fun x y H Q => ∃ i j, x = .int i ∧ y = .int j ∧ C i j ∧ Q (.int (f i j)) H
theorem ip_fdiv : PIp X .FloorDiv (ipC CDivW fun i j => i / j) := fun pins s σ H x y v u Q I r1 r2 h => by
  obtain ⟨i, j, e1, e2, hc, q⟩ := h
  exact iop_fdivW pins s σ H x y v u Q I r1 r2 ⟨i, j, e1, e2, hc, q⟩
theorem cs_augC (i : Nat) {x : Str} {op : Operator} {C : Int → Int → Prop} {f : Int → Int → Int} {p' : Pos} (hx0 : XO X k) (ho : PIp X op (ipC C f)) (he : CE (S := S) X e te) (hi : X.N[i]? = some x := by rfl) (hx : L2.Loc X.env.scope x := by first | exact .inl rfl | exact .inr rfl)
    (hf : X.fn x = true ∨ X.env.scope.names.lookup x = some .local := by first | exact .inl rfl | exact .inr rfl) : CS (S := S) X (.AugAssign (.Name x p') op e pos) (dAugC i C f te) := by
  refine ⟨fun pins s σ H Z I h => ?_⟩
  refine (ps_aug hx0.nd hi hx he ho hf).run pins s σ H Z I ?_
  have hil : i < σ.length := by rw [I.len]; exact (List.getElem?_eq_some_iff.mp hi).1
  obtain ⟨B, pa, τ, F, ρ, θ, E, R, hl, h, q⟩ := h
  obtain ⟨n, e1, h⟩ := gets_elim h
  obtain ⟨d, e2, e3⟩ := Option.bind_eq_some_iff.mp e1
  have e4 := D.int?_some e3
  subst e4
  obtain ⟨s0, e5, e6⟩ := Option.bind_eq_some_iff.mp e2
  obtain ⟨o, z1, z2⟩ := R.sl i s0 (by rw [List.getElem?_append_left (by omega)]; exact e5)
  have z3 := left_get hil z1
  have hv : o = some (.int n) := by
    cases s0 with
    | val d0 => cases e6; obtain ⟨v, rfl, hd⟩ := z2; rw [DR.int_.mp hd]
    | own _ => cases e6
    | bor _ => cases e6
    | un => cases e6
    | pen => cases e6
    | scr ns => cases e6
    | ref a => cases e6
  subst hv
  refine ⟨.int n, z3, ofE ⟨B, pa, τ, F, ρ, θ, _, R, hl, h, fun r ρ1 v H1 F1 h1 l1 R1 => ?_⟩⟩
  obtain ⟨m, f1, hc, h1⟩ := gets_elim h1
  have f2 := D.int?_some f1
  obtain ⟨F2, _, R2⟩ := freezeLast R1
  obtain ⟨⟨v', e', hd⟩, _⟩ := Rel.last (s := .val r.d) R2
  cases e'
  rw [f2] at hd
  have ev := DR.int_.mp hd
  have R3 := (R2.pop.pushVal (d := .int (f n m)) (v := .int (f n m)) (DR.int_.mpr rfl)).move (i := i) (by simp; omega)
  rw [List.set_append_left _ _ hil, List.set_append_left _ _ (by omega)] at R3
  exact ⟨n, m, rfl, ev, hc, q.nx _ { ρ1 with sl := ρ1.sl.set i (.val (.int (f n m))) } H1 F2 h1 (by simp) (by simpa using l1) R3⟩
/-! ### xs.insert(i, e) -/
def insD (xs : List D) (i : Int) (d : D) : List D := xs.take i.toNat ++ d :: xs.drop i.toNat
def insA : List D → Option (Int × D)
  | [.int z, d] => some (z, d)
  | _ => none
theorem insA_some {ds : List D} {p : Int × D} (h : insA ds = some p) : ds = [.int p.1, p.2] := by
  unfold insA at h
  split at h
  · cases h; rfl
  · cases h
def dInsert (i : Nat) (ta : (AW S)) : (DW S) := fun ρ P => (own? ρ.sl i).isSome = true ∧ ta ρ fun ks ρ1 => gets (vals ks) fun ds => gets (insA ds) fun p => gets (own? ρ1.sl i) fun xs => (xs.length < sizeLine ∧ 0 ≤ p.1 ∧ p.1 ≤ 1000000000) ∧ P (.val .none) { ρ1 with sl := ρ1.sl.set i (.own (insD xs p.1 p.2)) }
theorem ce_insert (i : Nat) {x : Str} {apos : Pos} (ha : CA (S := S) X [a, b] ta) (hN : X.N[i]? = some x := by rfl) (hv : Vis X.env.scope x := by first | exact Or.inl rfl | exact Or.inr (Or.inl rfl) | exact Or.inr (Or.inr rfl)) (hd : (x == ("__debug__" : Str)) = false := by decide) (hcd : (x == ("__classdict__" : Str)) = false := by decide)
    (hbase : attributeBase (.Name x p1) "insert" X.env (eval (.Name x p1) X.env) = eval (.Name x p1) X.env := by rfl)
    (hfew : ((backTo pos (starEach [a, b] X.env)).all (fun x => !x.1) && (backToKw pos (keywordEach [] X.env)).all (fun x => x.1.isSome) && decide ([a, b].length + ([] : List Keyword).length + (if ([] : List Keyword).isEmpty then 0 else 1) < 30)) = true := by rfl)
    (hline : (apos.endLine == pos.line) = true := by rfl) (hs : starEach [a, b] X.env = (false, eval a X.env) :: starEach [b] X.env := by rfl) (hplain : (backTo pos (starEach [b] X.env)).any (·.1) = false := by rfl) :
    CE (S := S) X (.Call (.Attribute (.Name x p1) "insert" apos) [a, b] [] pos) (dInsert i ta) :=
  pe_mono (pe_bm PySem.F.plainAttrs_list PySem.F.slot_list_insert PySem.F.type_list_insert mt_insert (pe_var hN hv hd hcd) ha hbase hfew hline hs hplain) fun σ H Q h => by
    obtain ⟨B, pa, τ, F, ρ, θ, P, R, hl, ⟨h0, h⟩, q⟩ := toE h
    obtain ⟨xs0, e0⟩ := Option.isSome_iff_exists.mp h0
    obtain ⟨a0, vs0, s0, _, _, s1, _⟩ := own_at R hl e0
    refine ⟨.ref a0, s0, .inl ⟨rfl, vs0, .inl (.inl s1)⟩, ?_⟩
    refine ⟨B, pa, τ, F, ρ, θ, _, R, hl, h, fun ks ρ1 vs H1 F1 h1 l1 hk R1 _ => ?_⟩
    have h1 : gets (vals ks) fun ds => gets (insA ds) fun p => gets (own? ρ1.sl i) fun xs => (xs.length < sizeLine ∧ 0 ≤ p.1 ∧ p.1 ≤ 1000000000) ∧ P (.val .none) { ρ1 with sl := ρ1.sl.set i (.own (insD xs p.1 p.2)) } := h1
    obtain ⟨ds, ed, h2⟩ := gets_elim h1
    clear h1
    have ek := vals_rds (ρ := ρ1) ed
    obtain ⟨⟨z, d⟩, ep, h3⟩ := gets_elim h2
    clear h2
    have ep := insA_some ep
    subst ep
    · have hl2 : ks.length = 2 := by have := congrArg List.length ek; simpa using this
      obtain ⟨v, w, rfl⟩ : ∃ v w, vs = [v, w] := by
        have hv2 : vs.length = 2 := by omega
        match vs, hv2 with
        | [v, w], _ => exact ⟨v, w, rfl⟩
      · 
        rw [ek] at R1
        have R2 : Rel X.K B pa (σ ++ τ ++ [some v] ++ [some w]) H1 F1 (ρ1.sl ++ θ ++ [.val (.int z)] ++ [.val d]) ρ1.pn := by simpa using R1
        obtain ⟨xs, ex, hz, h1⟩ := gets_elim h3
        obtain ⟨hz0, hz1, hz2⟩ := hz
        obtain ⟨⟨w', e', hd⟩, _⟩ := Rel.last (s := .val d) R2
        cases e'
        obtain ⟨⟨v', e'', hd2⟩, _⟩ := Rel.last (s := .val (.int z)) R2.pop
        cases e''
        have hv := DR.int_.mp hd2
        subst hv
        obtain ⟨a1, us, q0, q1, q2, q3, q4, q5⟩ := own_at R2.pop.pop l1 ex
        rw [s0] at q0
        cases q0
        refine ⟨a0, us, z, w, rfl, rfl, q3, by rw [q4.len]; exact hz0, hz1, by omega, ?_⟩
        have R3 := R2.pop.pop.writeS (ys := insD xs z d) (vs := us.take z.toNat ++ [w] ++ us.drop z.toNat) q2 q1 (by omega) (by
          unfold insD
          rw [List.append_assoc]
          exact (q4.take z.toNat).append (.cons hd (q4.drop z.toNat))) (by simp [q4.len]; omega)
        exact q (.val .none) { ρ1 with sl := ρ1.sl.set i (.own (insD xs z d)) } .non _ F1 h1 (by simpa using l1) (R3.pushVal (DR.non_.mpr rfl))
end
section
variable {E : (DE S)} {s0 : Sl} {l0 : List Sl} {pn : S} {te : (DW S)} {i : Nat} {C : Int → Int → Prop} {f : Int → Int → Int}
@[simp↓] theorem z_dAugC : dAugC i C f te E ⟨s0 :: l0, pn⟩ = gets ((rdS (s0 :: l0) i).bind D.int?) fun a => te ⟨s0 :: l0, pn⟩ fun r ρ1 => gets (D.int? r.d) fun b => C a b ∧ E.nx ⟨ρ1.sl.set i (.val (.int (f a b))), ρ1.pn⟩ := by rw [← rdS_eq]; rfl
@[simp↓] theorem z_dInsert {aa : (AW S)} {P : Rs → (En S) → Prop} : dInsert i aa ⟨s0 :: l0, pn⟩ P = ((own? (s0 :: l0) i).isSome = true ∧ aa ⟨s0 :: l0, pn⟩ fun ks ρ1 => gets (vals ks) fun ds => gets (insA ds) fun p => gets (own? ρ1.sl i) fun xs => (xs.length < sizeLine ∧ 0 ≤ p.1 ∧ p.1 ≤ 1000000000) ∧ P (.val .none) ⟨ρ1.sl.set i (.own (insD xs p.1 p.2)), ρ1.pn⟩) := rfl
@[simp↓] theorem g_insA {z : Int} {d : D} {k : Int × D → Prop} : gets (insA [.int z, d]) k = k (z, d) := rfl
end
end Dk
set_option Elab.async false
set_option linter.all false
set_option maxRecDepth 100000
set_option maxHeartbeats 2000000
/-! Dq5: the order of plans, their numbers. -/
namespace Dk
open PySem PySem.Spec PyProof.Rows L2
theorem snoc_ind {α : Type} {P : List α → Prop} (h0 : P []) (hs : ∀ l x, P l → P (l ++ [x])) (l : List α) : P l := by
  have : ∀ r : List α, P r.reverse := by
    intro r
    induction r with
    | nil => exact h0
    | cons x r ih => rw [List.reverse_cons]; exact hs _ _ ih
  have h := this l.reverse
  rwa [List.reverse_reverse] at h
/-! order -/
theorem dlt_trans {a b c : D} (h : PySem.W.dataLt a b = true) (g : PySem.W.dataLt b c = true) : PySem.W.dataLt a c = true := PyProof.Rows.lex_trans _ _ _ h g
theorem dlt_irr (a : D) : PySem.W.dataLt a a = false := PyProof.Rows.lex_irrefl _
theorem dlt_asym {a b : D} (h : PySem.W.dataLt a b = true) : PySem.W.dataLt b a = false := by
  cases e : PySem.W.dataLt b a with
  | false => rfl
  | true => have := dlt_trans h e; rw [dlt_irr] at this; cases this
theorem sortD_of {ds : List D} (h : ds.Pairwise fun a b => PySem.W.dataLt a b = true) : sortD ds = ds := List.mergeSort_of_pairwise (h.imp fun {a b} h => by unfold leD0; rw [dlt_asym h]; rfl)
def ltP (p q : Pl) : Bool := PySem.W.dataLt (planD p) (planD q)
mutual
theorem alike_plan : ∀ p q : Pl, PySem.W.alike (planD p) (planD q) = true
  | .mk k ps, .mk j qs => by
    rw [planD, planD]
    show (true && (PySem.W.alike (.tuple (planDs ps)) (.tuple (planDs qs)) && true)) = true
    rw [Bool.true_and, Bool.and_true]
    exact alike_plans ps qs
theorem alike_plans : ∀ ps qs : List Pl, PySem.W.alikeAll (planDs ps) (planDs qs) = true
  | [], qs => by rw [planDs]; cases planDs qs <;> rfl
  | _ :: _, [] => by rw [planDs, planDs]; rfl
  | p :: ps, q :: qs => by
    rw [planDs, planDs]
    show (PySem.W.alike _ _ && PySem.W.alikeAll _ _) = true
    rw [alike_plan p q, alike_plans ps qs]
    rfl
end
mutual
theorem eqv_plan : ∀ p q : Pl, PyData.eqv (planD p) (planD q) = true ↔ p = q
  | .mk k ps, .mk j qs => by
    rw [planD, planD, PyData.eqv, PyData.eqvAll, PyData.eqvAll, PyData.eqvAll, Bool.and_true, Bool.and_eq_true, show PyData.eqv (.tuple (planDs ps)) (.tuple (planDs qs)) = PyData.eqvAll (planDs ps) (planDs qs) from by rw [PyData.eqv], eqv_plans ps qs, eqv_int, beq_iff_eq]
    constructor
    · rintro ⟨h1, h2⟩
      rw [show k = j by omega, h2]
    · intro h
      injection h with h1 h2
      exact ⟨by rw [h1], h2⟩
theorem eqv_plans : ∀ ps qs : List Pl, PyData.eqvAll (planDs ps) (planDs qs) = true ↔ ps = qs
  | [], [] => by rw [planDs, PyData.eqvAll]; simp
  | [], q :: qs => by rw [planDs, planDs]; simp [PyData.eqvAll]
  | p :: ps, [] => by rw [planDs, planDs]; simp [PyData.eqvAll]
  | p :: ps, q :: qs => by
    rw [planDs, planDs, PyData.eqvAll, Bool.and_eq_true, eqv_plan p q, eqv_plans ps qs]
    simp
end
def ltR (ps qs : List Pl) : Bool := PySem.W.rowLt (planDs ps) (planDs qs)
theorem ltR_cons {p q : Pl} {ps qs : List Pl} : ltR (p :: ps) (q :: qs) = true ↔ (p = q ∧ ltR ps qs = true) ∨ (p ≠ q ∧ ltP p q = true) := by
  unfold ltR PySem.W.rowLt
  rw [planDs, planDs, PySem.W.dataLt_cons (alike_plan p q)]
  by_cases h : p = q
  · rw [if_pos ((eqv_plan p q).mpr h)]
    simp [h]
  · rw [if_neg (fun e => h ((eqv_plan p q).mp e))]
    simp [h, ltP]
theorem ltP_irr (p : Pl) : ltP p p = false := dlt_irr _
theorem ltR_irr (ps : List Pl) : ltR ps ps = false := PyProof.Rows.lex_irrefl _
theorem ltP_mk {k j : Nat} {ps qs : List Pl} : ltP (.mk k ps) (.mk j qs) = true ↔ k < j ∨ (k = j ∧ ltR ps qs = true) := by
  unfold ltP
  rw [planD, planD, PySem.W.dataLt_pair rfl (show PySem.W.alike (.tuple (planDs ps)) (.tuple (planDs qs)) = true from by rw [PySem.W.alike]; exact alike_plans ps qs), eqv_int, PySem.W.dataLt_int]
  by_cases h : k = j
  · subst h
    simp only [beq_self_eq_true, if_true]
    by_cases e : ps = qs
    · subst e
      rw [if_pos (show PyData.eqv (.tuple (planDs ps)) (.tuple (planDs ps)) = true from by rw [PyData.eqv]; exact (eqv_plans ps ps).mpr rfl), ltR_irr]
      simp
    · rw [if_neg (fun c => e ((eqv_plans ps qs).mp (by rw [PyData.eqv] at c; exact c)))]
      show PySem.W.dataLt (.tuple (planDs ps)) (.tuple (planDs qs)) = true ↔ _
      rw [PySem.W.dataLt_tuple]
      simp [ltR, PySem.W.rowLt]
  · have : ¬ ((k : Int) == (j : Int)) = true := by simp; omega
    rw [if_neg this, decide_eq_true_eq]
    omega
theorem ltR_snoc : ∀ {ps qs : List Pl} {p q : Pl}, ps.length = qs.length → (ltR (ps ++ [p]) (qs ++ [q]) = true ↔ ltR ps qs = true ∨ (ps = qs ∧ ltP p q = true))
  | [], [], p, q, _ => by
    rw [List.nil_append, List.nil_append, ltR_cons, ltR_irr]
    simp only [Bool.false_eq_true, and_false, false_or, true_and]
    constructor
    · exact fun h => h.2
    · intro h
      refine ⟨fun e => ?_, h⟩
      rw [e, ltP_irr] at h
      cases h
  | a :: ps, b :: qs, p, q, hl => by
    rw [List.cons_append, List.cons_append, ltR_cons, ltR_cons, ltR_snoc (by simpa using hl)]
    constructor
    · rintro (⟨h1, h2 | ⟨h2, h3⟩⟩ | h)
      · exact .inl (.inl ⟨h1, h2⟩)
      · exact .inr ⟨by rw [h1, h2], h3⟩
      · exact .inl (.inr h)
    · rintro ((⟨h1, h2⟩ | h) | ⟨h1, h2⟩)
      · exact .inl ⟨h1, .inl h2⟩
      · exact .inr h
      · injection h1 with h3 h4
        exact .inl ⟨h3, .inr ⟨h4, h2⟩⟩
  | [], _ :: _, _, _, h => by simp at h
  | _ :: _, [], _, _, h => by simp at h
/-! plans rise -/
theorem flat_pair {α β : Type} {R : α → α → Prop} {S : β → β → Prop} {l : List α} {g : α → List β} (hl : l.Pairwise R) (h1 : ∀ x ∈ l, (g x).Pairwise S) (h2 : ∀ x ∈ l, ∀ y ∈ l, R x y → ∀ a ∈ g x, ∀ b ∈ g y, S a b) : (l.flatMap g).Pairwise S := by
  induction l with
  | nil => simp
  | cons x l ih =>
    rw [List.flatMap_cons, List.pairwise_append]
    rw [List.pairwise_cons] at hl
    refine ⟨h1 x (by simp), ih hl.2 (fun y hy => h1 y (by simp [hy])) fun y hy z hz => h2 y (by simp [hy]) z (by simp [hz]), fun a ha b hb => ?_⟩
    obtain ⟨y, hy, hb⟩ := List.mem_flatMap.mp hb
    exact h2 x (by simp) y (by simp [hy]) (hl.1 y hy) a ha b hb
theorem rows_pair {som : Nat → List Pl} : ∀ (ns : List Nat), (∀ x ∈ ns, (som x).Pairwise fun p q => ltP p q = true) → (rowsL som ns).Pairwise fun a b => ltR a b = true := by
  intro ns
  induction ns using snoc_ind with
  | h0 => intro _; simp [rowsL]
  | hs ns x ih =>
    intro h
    rw [rows_snoc]
    refine flat_pair (R := fun a b => ltR a b = true) (ih fun y hy => h y (by simp [hy])) (fun row hr => ?_) fun a ha b hb hab u hu v hv => ?_
    · rw [List.pairwise_map]
      exact (h x (by simp)).imp fun {p q} e => (ltR_snoc rfl).mpr (.inr ⟨rfl, e⟩)
    · obtain ⟨p, _, rfl⟩ := List.mem_map.mp hu
      obtain ⟨q, _, rfl⟩ := List.mem_map.mp hv
      exact (ltR_snoc (by rw [((rows_mem ns a).mp ha).1, ((rows_mem ns b).mp hb).1])).mpr (.inl hab)
theorem enumA_pair (n : List Alt) : (enumA n).Pairwise fun a b => a.1 < b.1 := by
  unfold enumA
  rw [List.pairwise_map]
  have : ∀ (n : List Alt) (k : Nat), (n.zipIdx k).Pairwise fun a b => a.2 < b.2 := by
    intro n
    induction n with
    | nil => intro k; simp
    | cons a n ih =>
      intro k
      rw [List.zipIdx_cons, List.pairwise_cons]
      refine ⟨fun b hb => ?_, ih _⟩
      have := List.le_snd_of_mem_zipIdx hb
      omega
  exact this n 0
theorem plans_pair {m : Memo} : ∀ (f node : Nat), (plansL m f node).Pairwise fun p q => ltP p q = true
  | 0, _ => by rw [plansL]; simp
  | f + 1, node => by
    rw [plansL]
    refine flat_pair (enumA_pair _) (fun q _ => ?_) fun x _ y _ h a ha b hb => ?_
    · rw [List.pairwise_map]
      exact (rows_pair q.2.2 fun x _ => plans_pair f x).imp fun {a b} h => ltP_mk.mpr (.inr ⟨rfl, h⟩)
    · obtain ⟨r, _, rfl⟩ := List.mem_map.mp ha
      obtain ⟨s, _, rfl⟩ := List.mem_map.mp hb
      exact ltP_mk.mpr (.inl h)
theorem sort_plans {m : Memo} {f node : Nat} : sortD ((plansL m f node).map planD) = (plansL m f node).map planD := sortD_of (by
  rw [List.pairwise_map]
  exact plans_pair f node)
theorem plans_uniq {m : Memo} {f node i j : Nat} {p : Pl} (h1 : (plansL m f node)[i]? = some p) (h2 : (plansL m f node)[j]? = some p) : i = j := by
  have key : ∀ {i j : Nat}, i < j → (plansL m f node)[i]? = some p → (plansL m f node)[j]? = some p → False := fun {i j} hij h1 h2 => by
    obtain ⟨a1, b1⟩ := List.getElem?_eq_some_iff.mp h1
    obtain ⟨a2, b2⟩ := List.getElem?_eq_some_iff.mp h2
    have := List.pairwise_iff_getElem.mp (plans_pair (m := m) f node) i j a1 a2 hij
    rw [b1, b2, ltP_irr] at this
    cases this
  rcases Nat.lt_trichotomy i j with h | h | h
  · exact (key h h1 h2).elim
  · exact h
  · exact (key h h2 h1).elim
/-! places -/
theorem flat_at {α β : Type} {l : List α} {g : α → List β} {k j : Nat} {x : α} {y : β} (h1 : l[k]? = some x) (h2 : (g x)[j]? = some y) : (l.flatMap g)[((l.take k).map fun z => (g z).length).sum + j]? = some y := by
  induction l generalizing k with
  | nil => simp at h1
  | cons a l ih =>
    rw [List.flatMap_cons]
    cases k with
    | zero =>
      simp at h1
      subst h1
      have := (List.getElem?_eq_some_iff.mp h2).1
      simp
      rw [List.getElem?_append_left this]
      exact h2
    | succ k =>
      simp at h1
      rw [List.take_succ_cons, List.map_cons, List.sum_cons, Nat.add_assoc, List.getElem?_append_right (by omega), Nat.add_sub_cancel_left]
      exact ih h1
theorem sum_const {α : Type} {c : Nat} : ∀ (l : List α), (l.map fun _ => c).sum = l.length * c
  | [] => by simp
  | a :: l => by rw [List.map_cons, List.sum_cons, sum_const l, List.length_cons, Nat.succ_mul]; omega
theorem rows_at {som : Nat → List Pl} {ns : List Nat} {x i j : Nat} {row : List Pl} {p : Pl} (h1 : (rowsL som ns)[i]? = some row) (h2 : (som x)[j]? = some p) : (rowsL som (ns ++ [x]))[i * (som x).length + j]? = some (row ++ [p]) := by
  rw [rows_snoc]
  have hi := (List.getElem?_eq_some_iff.mp h1).1
  have := flat_at (g := fun row => (som x).map fun p => row ++ [p]) h1 (j := j) (y := row ++ [p]) (by rw [List.getElem?_map, h2]; rfl)
  simp only [List.length_map] at this
  rw [sum_const, List.length_take, Nat.min_eq_left (by omega)] at this
  exact this
/-- the counts of the alternatives ahead -/
def preN (m : Memo) (node k : Nat) : Int := (((m.getD node []).take k).map fun a => pN (cnts m) a.2).sum
mutual
def numP (m : Memo) : Nat → Pl → Int
  | node, .mk k ps => preN m node k + numR m 0 (altAt m node k).2 ps
def numR (m : Memo) : Int → List Nat → List Pl → Int
  | acc, nd :: ns, p :: ps => numR m (acc * gI (cnts m) nd + numP m nd p) ns ps
  | acc, _, _ => acc
end
theorem numR_nil {m : Memo} {acc : Int} : numR m acc [] [] = acc := by rw [numR]; all_goals simp
theorem numR_snoc {m : Memo} : ∀ (ns : List Nat) (ps : List Pl) (acc : Int) (x : Nat) (p : Pl), ps.length = ns.length → numR m acc (ns ++ [x]) (ps ++ [p]) = numR m acc ns ps * gI (cnts m) x + numP m x p
  | [], [], acc, x, p, _ => by rw [List.nil_append, List.nil_append, numR, numR_nil, numR_nil]
  | n :: ns, q :: qs, acc, x, p, h => by
    rw [List.cons_append, List.cons_append, numR, numR, numR_snoc ns qs _ x p (by simpa using h)]
  | [], _ :: _, _, _, _, h => by simp at h
  | _ :: _, [], _, _, _, h => by simp at h
theorem numP_mk {m : Memo} {node k : Nat} {n : List Alt} {a : Alt} {ps : List Pl} (hn : m[node]? = some n) (ha : n[k]? = some a) : numP m node (.mk k ps) = preN m node k + numR m 0 a.2 ps := by rw [numP, altAt_of hn ha]
theorem zipIdx_take {α : Type} : ∀ (l : List α) (k i : Nat), (l.zipIdx i).take k = (l.take k).zipIdx i
  | [], k, i => by simp
  | a :: l, 0, i => by simp
  | a :: l, k + 1, i => by rw [List.zipIdx_cons, List.take_succ_cons, List.take_succ_cons, List.zipIdx_cons, zipIdx_take l k (i + 1)]
theorem enumA_take (n : List Alt) (k : Nat) : (enumA n).take k = enumA (n.take k) := by
  unfold enumA
  rw [← List.map_take, zipIdx_take]
theorem enumA_snd (n : List Alt) : (enumA n).map Prod.snd = n := by
  unfold enumA
  rw [List.map_map]
  exact List.zipIdx_map_fst 0 n
theorem enumA_at {n : List Alt} {k : Nat} {a : Alt} (h : n[k]? = some a) : (enumA n)[k]? = some (k, a) := by
  unfold enumA
  rw [List.getElem?_map, List.getElem?_zipIdx, h]
  simp
theorem pre_len {m : Memo} (hm : Good m) {f node k : Nat} (hf : node < f + 1) (hl : node < m.length) : ((((((enumA (m.getD node [])).take k).map fun q => ((rowsL (plansL m f) q.2.2).map (Pl.mk q.1)).length).sum : Nat)) : Int) = preN m node k := by
  obtain ⟨n, hn⟩ : ∃ n, m[node]? = some n := ⟨_, List.getElem?_eq_getElem hl⟩
  have e : m.getD node [] = n := getD_of hn
  unfold preN
  rw [e, enumA_take]
  have key : ∀ (r : List Alt), (∀ a ∈ r, a ∈ n) → (((((enumA r).map fun q => ((rowsL (plansL m f) q.2.2).map (Pl.mk q.1)).length).sum : Nat)) : Int) = (r.map fun a => pN (cnts m) a.2).sum := by
    intro r hr
    have e2 : ((enumA r).map fun q => ((rowsL (plansL m f) q.2.2).map (Pl.mk q.1)).length) = r.map fun a => (rowsL (plansL m f) a.2).length := by
      conv => rhs; rw [← enumA_snd r]
      rw [List.map_map]
      exact List.map_congr_left fun q _ => by simp
    rw [e2]
    clear e2
    induction r with
    | nil => rfl
    | cons a r ih =>
      rw [List.map_cons, List.map_cons, List.sum_cons, List.sum_cons, Int.natCast_add, ih fun b hb => hr b (by simp [hb])]
      have ga := (hm node n hn).2.2 a (hr a (by simp))
      rw [rows_len a.2 fun x hx => plans_len hm f x (by have := ga.2 x hx; omega) (by have := ga.2 x hx; omega)]
  exact key _ fun a ha => List.mem_of_mem_take ha
/-- the place of a plan among all is its number -/
theorem plan_num {m : Memo} (hm : Good m) : ∀ (f node : Nat) (p : Pl), node < f → PlOk m node p → 0 ≤ numP m node p ∧ (plansL m f node)[(numP m node p).toNat]? = some p := by
  intro f
  induction f with
  | zero => intro node p h; omega
  | succ f ih =>
    intro node p hf hp
    cases hp with
    | mk hn ha hl hps =>
      rename_i k n a ps
      have hnl := (List.getElem?_eq_some_iff.mp hn).1
      obtain ⟨_, _, g2⟩ := hm node n hn
      obtain ⟨_, g4⟩ := g2 a (List.mem_of_getElem? ha)
      have R : ∀ (ns : List Nat) (ps : List Pl), ps.length = ns.length → (∀ x ∈ ns, x < node) → (∀ (j nd : Nat) (p : Pl), ns[j]? = some nd → ps[j]? = some p → PlOk m nd p) → 0 ≤ numR m 0 ns ps ∧ (rowsL (plansL m f) ns)[(numR m 0 ns ps).toNat]? = some ps := by
        intro ns
        induction ns using snoc_ind with
        | h0 =>
          intro ps hl _ _
          have : ps = [] := List.eq_nil_of_length_eq_zero (by simpa using hl)
          subst this
          rw [numR_nil]
          exact ⟨Int.le_refl 0, rfl⟩
        | hs ns x ih2 =>
          intro ps hl hx hp
          obtain ⟨qs, p, rfl⟩ : ∃ qs p, ps = qs ++ [p] := by
            refine ⟨ps.dropLast, ps.getLast (fun e => by rw [e] at hl; simp at hl), (List.dropLast_concat_getLast _).symm⟩
          have hl2 : qs.length = ns.length := by simpa using hl
          rw [numR_snoc ns qs 0 x p hl2]
          obtain ⟨a1, a2⟩ := ih2 qs hl2 (fun y hy => hx y (by simp [hy])) fun j nd p' h1 h2 => hp j nd p' (by rw [List.getElem?_append_left (List.getElem?_eq_some_iff.mp h1).1]; exact h1) (by rw [List.getElem?_append_left (List.getElem?_eq_some_iff.mp h2).1]; exact h2)
          have hxn := hx x (by simp)
          obtain ⟨b1, b2⟩ := ih x p (by omega) (hp ns.length x p (by simp) (by rw [← hl2]; simp))
          have hc := plans_len hm f x (by omega) (by omega)
          rw [← hc]
          have e : (numR m 0 ns qs * (((plansL m f x).length : Nat) : Int) + numP m x p).toNat = (numR m 0 ns qs).toNat * (plansL m f x).length + (numP m x p).toNat := by
            obtain ⟨u, hu⟩ := Int.eq_ofNat_of_zero_le a1
            obtain ⟨v, hv⟩ := Int.eq_ofNat_of_zero_le b1
            rw [hu, hv]
            show ((u : Int) * ((plansL m f x).length : Int) + (v : Int)).toNat = _
            rw [← Int.natCast_mul, ← Int.natCast_add]
            rfl
          have hnn : 0 ≤ numR m 0 ns qs * (((plansL m f x).length : Nat) : Int) := Int.mul_nonneg a1 (Int.natCast_nonneg _)
          exact ⟨by omega, by rw [e]; exact rows_at a2 b2⟩
      obtain ⟨r1, r2⟩ := R a.2 ps hl g4 hps
      rw [numP_mk hn ha]
      have hpre := pre_len hm (k := k) hf hnl
      have hn2 : m.getD node [] = n := getD_of hn
      have hpl : (plansL m (f + 1) node) = (enumA n).flatMap fun q => (rowsL (plansL m f) q.2.2).map (Pl.mk q.1) := by rw [plansL, hn2]
      rw [hn2] at hpre
      rw [← hpre]
      refine ⟨by omega, ?_⟩
      rw [hpl]
      have := flat_at (g := fun q : Nat × Alt => (rowsL (plansL m f) q.2.2).map (Pl.mk q.1)) (enumA_at ha) (j := (numR m 0 a.2 ps).toNat) (y := .mk k ps) (by rw [List.getElem?_map, r2]; rfl)
      rw [show (((((enumA n).take k).map fun q : Nat × Alt => ((rowsL (plansL m f) q.2.2).map (Pl.mk q.1)).length).sum : Nat) : Int) + numR m 0 a.2 ps = ((((((enumA n).take k).map fun q : Nat × Alt => ((rowsL (plansL m f) q.2.2).map (Pl.mk q.1)).length).sum + (numR m 0 a.2 ps).toNat : Nat)) : Int) by omega]
      exact this
theorem num_of_at {m : Memo} (hm : Good m) {f node i : Nat} {p : Pl} (hf : node < f) (h : (plansL m f node)[i]? = some p) : numP m node p = i := by
  obtain ⟨h1, h2⟩ := plan_num hm f node p hf ((plans_mem hm f node p hf).mp (List.mem_of_getElem? h))
  have := plans_uniq h h2
  omega
/-- a plan by its number -/
theorem at_of_num {m : Memo} (hm : Good m) {f node i : Nat} (hf : node < f) (hl : node < m.length) (hi : (i : Int) < gI (cnts m) node) : ∃ p, (plansL m f node)[i]? = some p ∧ PlOk m node p ∧ numP m node p = i := by
  have := plans_len hm f node hf hl
  have hi2 : i < (plansL m f node).length := by omega
  have h := List.getElem?_eq_getElem hi2
  exact ⟨_, h, (plans_mem hm f node _ hf).mp (List.mem_of_getElem? h), num_of_at hm hf h⟩
/-- what has the number i is the plan there -/
theorem at_num {m : Memo} (hm : Good m) {f node i : Nat} {p : Pl} (hf : node < f) (hp : PlOk m node p) (h : numP m node p = i) : (plansL m f node)[i]? = some p := by
  obtain ⟨h1, h2⟩ := plan_num hm f node p hf hp
  rw [h] at h2
  exact h2
end Dk
set_option Elab.async false
set_option linter.all false
set_option maxRecDepth 100000
set_option maxHeartbeats 2000000
/-! Dq6: while by the turns that are left; counts, plans by number: specs. -/
namespace Dk
open PySem PySem.Spec PyProof.Rows L2
theorem while_inv {c : BW} {b : DS} {E : DE} (J : Nat → En → Prop)
    (step : ∀ (i : Nat) (ρ : En), J i ρ → ∀ N : En → Prop, (∀ ρ', (∃ j, i = j + 1 ∧ J j ρ') → N ρ') → c ρ fun t ρ1 => if t = true then b { nx := N, rt := E.rt, bk := E.nx, ct := N } ρ1 else E.nx ρ1)
    {n : Nat} {ρ : En} (h : J n ρ) : dWhile c b E ρ := by
  refine ⟨n + 1, ?_⟩
  have key : ∀ (i : Nat) (ρ : En), J i ρ → whileW c b E (i + 1) ρ := by
    intro i
    induction i with
    | zero => exact fun ρ h => step 0 ρ h (whileW c b E 0) fun ρ' ⟨j, e, _⟩ => by omega
    | succ i ih => exact fun ρ h => step (i + 1) ρ h (whileW c b E (i + 1)) fun ρ' ⟨j, e, hj⟩ => ih ρ' (by rw [show i = j by omega]; exact hj)
  exact key n ρ h
/-- the numbers of plans, alternative by alternative -/
def cntR (m : Memo) (n : List Alt) : List Int := n.map fun a => pN (cnts m) a.2
def cntRD (m : Memo) (n : List Alt) : D := .list ((cntR m n).map .int)
def cntD (m : Memo) : D := .list (m.map (cntRD m))
theorem cntR_sum {m : Memo} (hm : Good m) {i : Nat} {n : List Alt} (h : m[i]? = some n) : (cntR m n).sum = gI (cnts m) i := by
  have := dp_get cnt_loc h fun a ha x hx => ((hm i n h).2.2 a ha).2 x hx
  show (cntR m n).sum = (cnts m).getD i 0
  rw [gI_of this]
  rfl
theorem cntD_at {m : Memo} {i : Nat} {n : List Alt} (h : m[i]? = some n) (k : D → Prop) : gets (atI (m.map (cntRD m)) (i : Int)) k = k (cntRD m n) := atR (by rw [List.getElem?_map, h]; rfl) k
def B40 : Int := 10000000000000000000000000000000000000000
theorem CntB.pN1 {m : Memo} (h : CntB m) {ns : List Nat} (hl : ns.length ≤ 1) : 0 ≤ pN (cnts m) ns ∧ pN (cnts m) ns ≤ B40 := by
  match ns, hl with
  | [], _ => exact ⟨by rw [pN_nil]; decide, by rw [pN_nil]; decide⟩
  | [x], _ => rw [pN_one]; exact h.gI x
theorem CntB.pN2 {m : Memo} (h : CntB m) {ns : List Nat} (hl : ns.length ≤ 2) : 0 ≤ pN (cnts m) ns ∧ pN (cnts m) ns ≤ B40 * B40 := by
  match ns, hl with
  | [], _ => exact ⟨by rw [pN_nil]; decide, by rw [pN_nil]; decide⟩
  | [x], _ => rw [pN_one]; have := h.gI x; exact ⟨this.1, Int.le_trans this.2 (by decide)⟩
  | [x, y], _ => rw [pN_two]; exact mul_bd (h.gI x).1 (h.gI x).2 (h.gI y).1 (h.gI y).2
theorem natAbs_lt {x B : Int} {n : Nat} (h0 : 0 ≤ x) (h : x ≤ B) (hB : B.natAbs < n) : x.natAbs < n := by omega
theorem cmB {x y : Int} (h0 : 0 ≤ x) (h1 : x ≤ B40 * B40) (g0 : 0 ≤ y) (g1 : y ≤ B40 * B40) : CMulW x y := cmul (natAbs_lt h0 h1 (by decide +kernel)) (natAbs_lt g0 g1 (by decide +kernel))
theorem cdivB {x y : Int} (h0 : 0 < y) (h : y ≤ B40 * B40) : CDivW x y := by
  refine ⟨h0, ?_⟩
  have := (Nat.log2_lt (n := y.natAbs) (k := 1000) (by omega)).mpr (natAbs_lt (by omega) h (by decide +kernel))
  omega
def spAllCounts : DSp := fun as pn P => ∃ m : Memo, as = [.val (memoD m)] ∧ Good m ∧ CntB m ∧ m.length ≤ 1000 ∧ P (cntD m) pn
def spCountP : DSp := fun as pn P => ∃ (m : Memo) (node : Nat), as = [.val (memoD m), .val (.int node)] ∧ Good m ∧ CntB m ∧ m.length ≤ 1000 ∧ node < m.length ∧ P (.int (gI (cnts m) node)) pn
def spBuilt (f : Nat) : DSp := fun as pn P => ∃ (m : Memo) (node : Nat) (z : Int), as = [.val (memoD m), .val (cntD m), .val (.int node), .val (.int z)] ∧ Good m ∧ CntB m ∧ m.length ≤ 1000 ∧ node < f ∧ node < m.length ∧ 0 ≤ z ∧ z < gI (cnts m) node ∧ ∀ p, PlOk m node p → numP m node p = z → P (planD p) pn
theorem num_bd {m : Memo} (hm : Good m) {node : Nat} {p : Pl} (h : PlOk m node p) : 0 ≤ numP m node p ∧ numP m node p < gI (cnts m) node := by
  have hl := h.lt
  obtain ⟨h1, h2⟩ := plan_num hm (node + 1) node p (by omega) h
  have h3 := (List.getElem?_eq_some_iff.mp h2).1
  have := plans_len hm (node + 1) node (by omega) hl
  omega
theorem numR_bd {m : Memo} (hm : Good m) : ∀ (ns : List Nat) (ps : List Pl), ps.length = ns.length → (∀ (j nd : Nat) (p : Pl), ns[j]? = some nd → ps[j]? = some p → PlOk m nd p) → 0 ≤ numR m 0 ns ps ∧ numR m 0 ns ps < pN (cnts m) ns := by
  intro ns
  induction ns using snoc_ind with
  | h0 =>
    intro ps hl _
    have : ps = [] := List.eq_nil_of_length_eq_zero (by simpa using hl)
    subst this
    rw [numR_nil, pN_nil]
    decide
  | hs ns x ih =>
    intro ps hl hp
    obtain ⟨qs, p, rfl⟩ : ∃ qs p, ps = qs ++ [p] := ⟨ps.dropLast, ps.getLast (fun e => by rw [e] at hl; simp at hl), (List.dropLast_concat_getLast _).symm⟩
    have hl2 : qs.length = ns.length := by simpa using hl
    obtain ⟨a1, a2⟩ := ih qs hl2 fun j nd p' h1 h2 => hp j nd p' (by rw [List.getElem?_append_left (List.getElem?_eq_some_iff.mp h1).1]; exact h1) (by rw [List.getElem?_append_left (List.getElem?_eq_some_iff.mp h2).1]; exact h2)
    obtain ⟨b1, b2⟩ := num_bd hm (hp ns.length x p (by simp) (by rw [← hl2]; simp))
    rw [numR_snoc ns qs 0 x p hl2, pN_snoc]
    generalize numR m 0 ns qs = A at a1 a2
    generalize pN (cnts m) ns = C at a2
    generalize gI (cnts m) x = G at b2
    generalize numP m x p = V at b1 b2
    have h1 : A * G ≤ (C - 1) * G := Int.mul_le_mul_of_nonneg_right (by omega) (by omega)
    rw [Int.sub_mul] at h1
    have h2 : 0 ≤ A * G := Int.mul_nonneg a1 (by omega)
    omega
theorem pre_snoc {m : Memo} {node k : Nat} {n : List Alt} {a : Alt} (hn : m[node]? = some n) (ha : n[k]? = some a) : preN m node (k + 1) = preN m node k + pN (cnts m) a.2 := by
  unfold preN
  rw [show m.getD node [] = n from getD_of hn, take_snocA ha, List.map_append, List.sum_append]
  simp
theorem pre_mono {m : Memo} (hB : CntB m) (hm : Good m) {node : Nat} {n : List Alt} (hn : m[node]? = some n) : ∀ {j k : Nat}, j ≤ k → k ≤ n.length → preN m node j ≤ preN m node k := by
  intro j k h
  obtain ⟨d, rfl⟩ := Nat.exists_eq_add_of_le h
  induction d with
  | zero => intro _; exact Int.le_refl _
  | succ d ih =>
    intro hk
    have ha := List.getElem?_eq_getElem (l := n) (show j + d < n.length by omega)
    rw [show j + (d + 1) = j + d + 1 by omega, pre_snoc hn ha]
    have := (hB.pN2 (((hm node n hn).2.2 _ (List.getElem_mem (show j + d < n.length by omega))).1)).1
    have := ih (by omega) (by omega)
    omega
/-- the alternative of a number -/
theorem num_alt {m : Memo} (hm : Good m) {node : Nat} {n : List Alt} (hn : m[node]? = some n) {z : Int} (h0 : 0 ≤ z) (h1 : z < gI (cnts m) node) : ∃ (K : Nat) (a : Alt), n[K]? = some a ∧ preN m node K ≤ z ∧ z - preN m node K < pN (cnts m) a.2 := by
  obtain ⟨i, hi⟩ := Int.eq_ofNat_of_zero_le h0
  obtain ⟨p, hpm, hp, e⟩ := at_of_num hm (f := node + 1) (by omega) (List.getElem?_eq_some_iff.mp hn).1 (by rw [hi] at h1; exact h1)
  cases hp with
  | mk hn2 ha hl hps =>
    rename_i k n' a ps
    rw [hn] at hn2
    cases hn2
    rw [numP_mk hn ha] at e
    have := numR_bd hm _ _ hl hps
    exact ⟨k, a, ha, by omega, by omega⟩
def spPlanAt : DSp := fun as pn P => ∃ (m : Memo) (node : Nat) (z : Int), as = [.val (memoD m), .val (.int node), .val (.int z)] ∧ Good m ∧ CntB m ∧ m.length ≤ 1000 ∧ node < 25 ∧ node < m.length ∧ 0 ≤ z ∧ (z < gI (cnts m) node → ∀ p, PlOk m node p → numP m node p = z → P (planD p) pn) ∧ (gI (cnts m) node ≤ z → P .none pn)
def spStand (f : Nat) : DSp := fun as pn P => ∃ (m : Memo) (node : Nat) (p : Pl), as = [.val (memoD m), .val (cntD m), .val (.int node), .val (planD p)] ∧ Good m ∧ CntB m ∧ m.length ≤ 1000 ∧ node < f ∧ PlOk m node p ∧ P (.int (numP m node p)) pn
def spPlanNumber : DSp := fun as pn P => ∃ (m : Memo) (node : Nat) (p : Pl), as = [.val (memoD m), .val (.int node), .val (planD p)] ∧ Good m ∧ CntB m ∧ m.length ≤ 1000 ∧ node < 25 ∧ PlOk m node p ∧ P (.int (numP m node p)) pn
def spAdded : DSp := fun as pn P => ∃ xs ys : List Int, as = [.val (tupI xs), .val (tupI ys)] ∧ xs.length = ys.length ∧ P (tupI (addV xs ys)) pn
def spCostsP (f : Nat) : DSp := fun as pn P => ∃ (m : Memo) (cs : List (List Int)) (node size : Nat) (p : Pl), as = [.val (memoD m), .val (cornersD cs), .val (.int node), .val (planD p)] ∧ Good m ∧ PlOk m node p ∧ node < f ∧ PriceOk m cs size ∧ P (tupI (ownC cs (amP m node p))) pn
/-- the plan of a number within the alternatives ahead -/
theorem isPlan_ok {m : Memo} (hm : Good m) : ∀ (f node : Nat) (p : Pl), node < f → PlOk m node p → isPlan m f node (planD p) = true := by
  intro f
  induction f with
  | zero => intro node p h; omega
  | succ f ih =>
    intro node p hf hp
    cases hp with
    | mk hn ha hl hps =>
      rename_i k n a ps
      obtain ⟨_, _, g2⟩ := hm node n hn
      have hx := (g2 a (List.mem_of_getElem? ha)).2
      have hk := (List.getElem?_eq_some_iff.mp ha).1
      rw [planD_mk]
      simp only [isPlan, hn]
      rw [if_pos ⟨by omega, by omega⟩, show ((k : Int)).toNat = k by omega]
      simp only [ha]
      rw [Bool.and_eq_true, decide_eq_true_eq, List.length_map]
      refine ⟨hl, ?_⟩
      rw [List.all_eq_true]
      intro b hb
      obtain ⟨j, hj, e⟩ := List.mem_iff_getElem.mp hb
      rw [List.length_zipWith] at hj
      rw [List.getElem_zipWith] at e
      rw [← e, List.getElem_map]
      have hj1 : j < a.2.length := by omega
      have hj2 : j < ps.length := by omega
      exact ih _ _ (by have := hx _ (List.getElem_mem hj1); omega) (hps j _ _ (List.getElem?_eq_getElem hj1) (List.getElem?_eq_getElem hj2))
end Dk
set_option Elab.async false
set_option linter.all false
set_option maxRecDepth 100000
set_option maxHeartbeats 2000000
/-! Dq7: numbers rise as plans do; sorted rows of numbers and plans; plans drawn. -/
namespace Dk
open PySem PySem.Spec PyProof.Rows L2
theorem num_lt {m : Memo} (hm : Good m) {node : Nat} {p q : Pl} (hp : PlOk m node p) (hq : PlOk m node q) : ltP p q = decide (numP m node p < numP m node q) := by
  obtain ⟨a0, a1⟩ := plan_num hm (node + 1) node p (by omega) hp
  obtain ⟨b0, b1⟩ := plan_num hm (node + 1) node q (by omega) hq
  have hpw := List.pairwise_iff_getElem.mp (plans_pair (m := m) (node + 1) node)
  obtain ⟨h1, e1⟩ := List.getElem?_eq_some_iff.mp a1
  obtain ⟨h2, e2⟩ := List.getElem?_eq_some_iff.mp b1
  rcases Int.lt_trichotomy (numP m node p) (numP m node q) with h | h | h
  · rw [decide_eq_true h]
    have := hpw (numP m node p).toNat (numP m node q).toNat h1 h2 (by omega)
    rwa [e1, e2] at this
  · have e : p = q := by
      rw [h] at a1
      rw [a1] at b1
      exact Option.some.inj b1
    subst e
    rw [ltP_irr, decide_eq_false (Int.lt_irrefl _)]
  · rw [decide_eq_false (by omega)]
    have := hpw (numP m node q).toNat (numP m node p).toNat h2 h1 (by omega)
    rw [e1, e2] at this
    exact dlt_asym this
theorem num_inj {m : Memo} (hm : Good m) {node : Nat} {p q : Pl} (hp : PlOk m node p) (hq : PlOk m node q) (h : numP m node p = numP m node q) : p = q := by
  obtain ⟨a0, a1⟩ := plan_num hm (node + 1) node p (by omega) hp
  obtain ⟨b0, b1⟩ := plan_num hm (node + 1) node q (by omega) hq
  rw [h] at a1
  rw [a1] at b1
  exact Option.some.inj b1
def numD (m : Memo) (node : Nat) (p : Pl) : D := .tuple [.int (numP m node p), planD p]
theorem numD_lt {m : Memo} (hm : Good m) {node : Nat} {p q : Pl} (hp : PlOk m node p) (hq : PlOk m node q) : PySem.W.dataLt (numD m node p) (numD m node q) = ltP p q := by
  unfold numD
  rw [PySem.W.dataLt_pair rfl (alike_plan p q), eqv_int, PySem.W.dataLt_int, num_lt hm hp hq]
  by_cases h : numP m node p = numP m node q
  · have e := num_inj hm hp hq h
    subst e
    rw [if_pos (by simp), if_pos ((eqv_plan p p).mpr rfl), decide_eq_false (Int.lt_irrefl _)]
  · rw [if_neg (by simpa using h)]
/-- plans sorted by their numbers -/
def sortN (m : Memo) (node : Nat) (ps : List Pl) : List Pl := ps.mergeSort fun a b => decide (numP m node a ≤ numP m node b)
theorem numD_sort {m : Memo} (hm : Good m) {node : Nat} {ps : List Pl} (h : ∀ p ∈ ps, PlOk m node p) : sortD (ps.map (numD m node)) = (sortN m node ps).map (numD m node) := by
  unfold sortD sortN
  exact (List.map_mergeSort (r := fun a b => decide (numP m node a ≤ numP m node b)) (s := leD0) (f := numD m node) (l := ps) fun a ha b hb => by
    unfold leD0
    rw [numD_lt hm (h b hb) (h a ha), num_lt hm (h b hb) (h a ha), ← decide_not]
    exact decide_eq_decide.mpr (by omega)).symm
theorem plan_sort {m : Memo} (hm : Good m) {node : Nat} {ps : List Pl} (h : ∀ p ∈ ps, PlOk m node p) : sortD (ps.map planD) = (sortN m node ps).map planD := by
  unfold sortD sortN
  exact (List.map_mergeSort (r := fun a b => decide (numP m node a ≤ numP m node b)) (s := leD0) (f := planD) (l := ps) fun a ha b hb => by
    unfold leD0
    have := num_lt hm (h b hb) (h a ha)
    unfold ltP at this
    rw [this, ← decide_not]
    exact decide_eq_decide.mpr (by omega)).symm
theorem sortN_mem {m : Memo} {node : Nat} {ps : List Pl} {p : Pl} : p ∈ sortN m node ps ↔ p ∈ ps := List.mem_mergeSort
theorem sortN_len {m : Memo} {node : Nat} {ps : List Pl} : (sortN m node ps).length = ps.length := List.length_mergeSort _
theorem planD_pair (p : Pl) : ∃ (a : D) (r : List D), planD p = .tuple (a :: r) := by
  obtain ⟨k, ps⟩ := p
  exact ⟨_, _, planD_mk⟩
theorem sortOk_plans {ps : List Pl} (h : ∀ p ∈ ps, (planD p).depth ≤ 64) : sortOk (ps.map planD) := by
  refine ⟨fun d hd e he => ?_, .inl fun d hd => ?_, fun d hd => ?_⟩
  · obtain ⟨p, _, rfl⟩ := List.mem_map.mp hd
    obtain ⟨q, _, rfl⟩ := List.mem_map.mp he
    exact alike_plan p q
  · obtain ⟨p, _, rfl⟩ := List.mem_map.mp hd
    exact planD_pair p
  · obtain ⟨p, hp, rfl⟩ := List.mem_map.mp hd
    exact h p hp
theorem sortOk_nums {m : Memo} {node : Nat} {ps : List Pl} (h : ∀ p ∈ ps, (planD p).depth ≤ 63) : sortOk (ps.map (numD m node)) := by
  refine ⟨fun d hd e he => ?_, .inl fun d hd => ?_, fun d hd => ?_⟩
  · obtain ⟨p, _, rfl⟩ := List.mem_map.mp hd
    obtain ⟨q, _, rfl⟩ := List.mem_map.mp he
    show (true && (PySem.W.alike (planD p) (planD q) && true)) = true
    rw [alike_plan p q]
    rfl
  · obtain ⟨p, _, rfl⟩ := List.mem_map.mp hd
    exact ⟨_, _, rfl⟩
  · obtain ⟨p, hp, rfl⟩ := List.mem_map.mp hd
    have := h p hp
    unfold numD
    rw [depth_tuple]
    have : PyData.depthAll [PyData.int (numP m node p), planD p] ≤ 63 := depthAll_le.mpr fun d hd => by
      rcases List.mem_cons.mp hd with rfl | hd
      · exact Nat.zero_le _
      · rcases List.mem_cons.mp hd with rfl | hd
        · exact this
        · cases hd
    omega
theorem shaped_listP {xs : List D} (p : plA xs = true) (h : PyData.depthAll xs ≤ 63) : SeqAt.shaped (.list xs) = true := by
  unfold SeqAt.shaped
  rw [show (PyData.list xs).canLay0 = PyData.canLayAll0 xs from by rw [PyData.canLay0], (plA_all p).2.2.2, decide_eq_true (show (PyData.list xs).depth ≤ 64 by rw [depth_list]; omega)]
  rfl
theorem list_self {xs : List D} (p : plA xs = true) (h : PyData.depthAll xs ≤ 63) : eqOk (.list xs) (.list xs) = true ∧ PyData.eqv (.list xs) (.list xs) = true := by
  refine ⟨?_, ?_⟩
  · unfold eqOk
    rw [shaped_listP p h]
    simp
  · have := (pl_self (d := .tuple xs) (by rw [pl_tuple]; exact p) (by rw [depth_tuple]; omega)).2
    have e1 : PyData.eqv (.tuple xs) (.tuple xs) = PyData.eqvAll xs xs := by rw [PyData.eqv]
    have e2 : PyData.eqv (.list xs) (.list xs) = PyData.eqvAll xs xs := by rw [PyData.eqv]
    rw [e2, ← e1]
    exact this
theorem lift_pls {P : Pl → Prop} : ∀ {acc : List D}, (∀ d ∈ acc, ∃ q, P q ∧ d = planD q) → ∃ ps : List Pl, acc = ps.map planD ∧ ∀ q ∈ ps, P q
  | [], _ => ⟨[], rfl, by simp⟩
  | d :: acc, h => by
    obtain ⟨q, hq, rfl⟩ := h d (by simp)
    obtain ⟨ps, rfl, h2⟩ := lift_pls (acc := acc) fun e he => h e (by simp [he])
    exact ⟨q :: ps, rfl, fun x hx => by
      rcases List.mem_cons.mp hx with rfl | hx
      · exact hq
      · exact h2 x hx⟩
theorem list_plans {m : Memo} (hm : Good m) {node : Nat} (hn : node ≤ 30) {ps : List Pl} (h : ∀ p ∈ ps, PlOk m node p) : plA (ps.map planD) = true ∧ PyData.depthAll (ps.map planD) ≤ 63 :=
  ⟨plA_map fun p hp => (planD_pl hm p node (h p hp)).1, depth_map fun p hp => by
    have := (planD_pl hm p node (h p hp)).2.1
    omega⟩
/-- the last of the sorted plans has the greatest number -/
theorem last_num {m : Memo} (hm : Good m) {node : Nat} {ps : List Pl} (h : ∀ p ∈ ps, PlOk m node p) {p : Pl} (hp : p ∈ ps) (he : numP m node p = gI (cnts m) node - 1) : ∃ q, (sortN m node ps)[ps.length - 1]? = some q ∧ numP m node q = gI (cnts m) node - 1 := by
  have hpw : (sortN m node ps).Pairwise fun a b => decide (numP m node a ≤ numP m node b) = true :=
    List.pairwise_mergeSort (le := fun a b => decide (numP m node a ≤ numP m node b)) (fun a b c h1 h2 => by
      rw [decide_eq_true_eq] at h1 h2 ⊢
      omega) (fun a b => by
      rw [Bool.or_eq_true, decide_eq_true_eq, decide_eq_true_eq]
      omega) ps
  have hl := sortN_len (m := m) (node := node) (ps := ps)
  have hpos : 0 < ps.length := List.length_pos_of_mem hp
  have hg := List.getElem?_eq_getElem (l := sortN m node ps) (i := ps.length - 1) (by omega)
  refine ⟨_, hg, ?_⟩
  obtain ⟨i, hi, e⟩ := List.mem_iff_getElem.mp (sortN_mem (m := m) (node := node) |>.mpr hp)
  have hq := h _ (sortN_mem.mp (List.mem_of_getElem? hg))
  have hb := (num_bd hm hq).2
  by_cases hil : i = ps.length - 1
  · subst hil
    rw [e]
    exact he
  · have := List.pairwise_iff_getElem.mp hpw i (ps.length - 1) hi (by omega) (by omega)
    rw [decide_eq_true_eq, e] at this
    omega
/-- a plan drawn part by part -/
def spDrawPl (f : Nat) : DSp := fun as pn P => ∃ (p : Pen) (m : Memo) (node b : Nat), as = [.pen, .val (memoD m), .val (.int node)] ∧ Good m ∧ node < f ∧ node < m.length ∧ pn = some p ∧ Bud p (b + costP f) ∧ ∀ q p', PlOk m node q → Bud p' b → P (planD q) (some p')
end Dk
set_option Elab.async false
set_option linter.all false
set_option maxRecDepth 100000
set_option maxHeartbeats 2000000
/-! Dm5: memos that are drawn are memos; a node said again. -/
namespace Dk
open PySem PySem.Spec PyProof.Rows L2
theorem altP_eq {ps : List Int} {a : Alt} : altP ps (altD a) = sN ps a.2 := by
  unfold altP altD needsD sN needsL
  rw [List.map_map, List.map_map]
  congr 1
theorem nodeP_eq {ps : List Int} {n : List Alt} : nodeP ps (nodeD n) = partsN ps n := by
  unfold nodeP nodeD altsD partsN
  rw [List.map_map]
  rw [show (altP ps ∘ altD) = fun a => sN ps a.2 from funext fun a => altP_eq]
theorem partsF_memo : ∀ (m : Memo) (ps : List Int), partsF (m.map nodeD) ps = m.foldl (fun acc n => acc ++ [partsN acc n]) ps
  | [], ps => rfl
  | n :: m, ps => by rw [List.map_cons, partsF, List.foldl_cons, nodeP_eq, partsF_memo m]
theorem isAmts_of {size : Nat} {high : Int} {xs : List Int} (h : xs.length = size) (g : ∀ x ∈ xs, 0 ≤ x ∧ x ≤ high) : isAmts size high (.tuple (xs.map .int)) = true := by
  unfold isAmts
  rw [Bool.and_eq_true, decide_eq_true_eq, List.all_eq_true]
  refine ⟨by rw [List.length_map]; exact h, fun d hd => ?_⟩
  obtain ⟨x, hx, rfl⟩ := List.mem_map.mp hd
  obtain ⟨g1, g2⟩ := g x hx
  simp [Dk.isInt, g1, g2]
theorem isAlt_of {size i : Nat} {a : Alt} (h : FineA size i a) : isAltD i size (altD a) = true := by
  obtain ⟨⟨h1, h2⟩, h3, h4⟩ := h
  unfold isAltD altD
  simp only
  rw [Bool.and_eq_true]
  refine ⟨isAmts_of h1 h2, ?_⟩
  unfold isNeeds needsL
  simp only
  rw [Bool.and_eq_true, decide_eq_true_eq, List.all_eq_true]
  refine ⟨by rw [List.length_map]; exact h3, fun d hd => ?_⟩
  obtain ⟨x, hx, rfl⟩ := List.mem_map.mp hd
  have := h4 x hx
  simp [Dk.isInt]
  omega
theorem Fine.isMemo {m : Memo} {size most : Nat} {B : Int} (F : Fine size most B m) (hm : most ≤ 20) (h0 : m ≠ []) (h1 : m.length ≤ 24) (s0 : 1 ≤ size) (s1 : size ≤ 4) : isMemoD (memoD m) = true := by
  obtain ⟨n, hn⟩ : ∃ n, m[0]? = some n := ⟨_, List.getElem?_eq_getElem (List.length_pos_iff.mpr h0)⟩
  obtain ⟨g0, _, g2⟩ := F.node 0 n hn
  have hso : sizeO (memoD m) = some size := by
    match m, n, hn, g0, g2 with
    | _ :: _, a :: r, hn, _, g2 =>
      cases hn
      have := (g2 a (by simp)).1.1
      show some ((a.1.map PyData.int).length) = some size
      rw [List.length_map, this]
  unfold isMemoD
  rw [hso]
  simp only [memoD]
  rw [Bool.and_eq_true, Bool.and_eq_true, Bool.and_eq_true, decide_eq_true_eq, decide_eq_true_eq]
  refine ⟨⟨s0, s1⟩, by rw [List.length_map]; exact h1, nodesOk_all fun j d hd => ?_, ?_⟩
  · rw [List.getElem?_map] at hd
    obtain ⟨x, hx, rfl⟩ := Option.map_eq_some_iff.mp hd
    obtain ⟨k0, k1, k2⟩ := F.node j x hx
    unfold isNodeD nodeD
    simp only
    rw [Bool.and_eq_true, decide_eq_true_eq, List.all_eq_true]
    refine ⟨⟨by rw [List.length_map]; exact List.length_pos_iff.mpr k0, by rw [List.length_map]; omega⟩, fun e he => ?_⟩
    obtain ⟨a, ha, rfl⟩ := List.mem_map.mp he
    rw [Nat.zero_add]
    exact isAlt_of (k2 a ha)
  · have e : partsLD (m.map nodeD) = prts m := partsF_memo m []
    rw [e]
    cases hx : maxI (prts m) with
    | none =>
      cases hp : prts m with
      | nil =>
        have := congrArg List.length hp
        rw [dp_len] at this
        exact absurd (List.length_eq_zero_iff.mp this) h0
      | cons a r => rw [hp] at hx; cases hx
    | some k =>
      have := F.prt k (maxI_spec hx).1
      simp only [decide_eq_true_eq]
      omega
theorem Fine.again {m : Memo} {size most : Nat} {B : Int} (F : Fine size most B m) {n : List Alt} (hl : m[m.length - 1]? = some n) : Fine size most B (m ++ [n]) := by
  obtain ⟨g0, g1, g2⟩ := F.node _ n hl
  have hlt := (List.getElem?_eq_some_iff.mp hl).1
  have c1 := dp_get (g := cntN) cnt_loc hl fun a ha x hx => (g2 a ha).2.2 x hx
  have c2 := dp_get (g := partsN) parts_loc hl fun a ha x hx => (g2 a ha).2.2 x hx
  exact F.snoc g0 g1 (fun a ha => (g2 a ha).mono (by omega)) (F.cnt _ (List.mem_of_getElem? c1)) (F.prt _ (List.mem_of_getElem? c2))
/-! a plan of the last node, of the node said again -/
theorem PlOk.again {m : Memo} {n : List Alt} (hm : Good m) (hl : m[m.length - 1]? = some n) : ∀ {node : Nat} {p : Pl}, PlOk m node p → PlOk (m ++ [n]) node p := by
  intro node p h
  induction h with
  | mk hn ha hlen hps ih =>
    refine .mk (by rw [List.getElem?_append_left (List.getElem?_eq_some_iff.mp hn).1]; exact hn) ha hlen fun j nd q h1 h2 => ih j nd q h1 h2
theorem PlOk.last {m : Memo} {n : List Alt} (hm : Good m) (hl : m[m.length - 1]? = some n) {p : Pl} (h : PlOk m (m.length - 1) p) : PlOk (m ++ [n]) m.length p := by
  cases h with
  | mk hn ha hlen hps =>
    rw [hl] at hn
    cases hn
    refine .mk (by simp) ha hlen fun j nd q h1 h2 => (hps j nd q h1 h2).again hm hl
theorem amPs_congr {m m' : Memo} : ∀ (ns : List Nat) (ps : List Pl) (acc : List Int), (∀ (j nd : Nat) (p : Pl), ns[j]? = some nd → ps[j]? = some p → amP m' nd p = amP m nd p) → amPs m' acc ns ps = amPs m acc ns ps
  | [], ps, acc, _ => by cases ps <;> rfl
  | nd :: ns, [], acc, _ => rfl
  | nd :: ns, p :: ps, acc, h => by
    rw [amPs, amPs, h 0 nd p rfl rfl]
    exact amPs_congr ns ps _ fun j nd' q h1 h2 => h (j + 1) nd' q (by simpa using h1) (by simpa using h2)
theorem amP_again {m : Memo} {n : List Alt} : ∀ {node : Nat} {p : Pl}, PlOk m node p → amP (m ++ [n]) node p = amP m node p := by
  intro node p h
  induction h with
  | mk hn ha hlen hps ih =>
    have hn2 := List.getElem?_append_left (l₂ := [n]) (List.getElem?_eq_some_iff.mp hn).1
    rw [hn] at hn2
    rw [amP, amP, altAt_of hn ha, altAt_of hn2 ha]
    exact amPs_congr _ _ _ ih
theorem amP_last {m : Memo} {n : List Alt} (hl : m[m.length - 1]? = some n) {p : Pl} (h : PlOk m (m.length - 1) p) : amP (m ++ [n]) m.length p = amP m (m.length - 1) p := by
  cases h with
  | mk hn ha hlen hps =>
    rw [hl] at hn
    cases hn
    rw [amP, amP, altAt_of hl ha, altAt_of (m := m ++ [n]) (by simp) ha]
    exact amPs_congr _ _ _ fun j nd q h1 h2 => amP_again (hps j nd q h1 h2)
end Dk
set_option Elab.async false
set_option linter.all false
set_option maxRecDepth 100000
set_option maxHeartbeats 2000000
/-! Do1: a store with objects and lists that change. -/
namespace Dk
open PySem PySem.Spec PyProof.Rows L2
/-- an object: its class, the names of its attributes, what they hold (un, val, ref) -/
structure Ob where
  C : Addr
  N : List Str
  fs : List Sl
/-- a dict: its keys are ints and texts, or tuples of such -/
inductive Dc where
  | k (kvs : List (Key × D)) | t (kvs : List (List Key × D))
structure Sto where
  pen : Option Pen
  ob : Addr → Option Ob
  ls : Addr → Option (List D)
  dc : Addr → Option Dc
def Sto.putO (s : Sto) (a : Addr) (o : Ob) : Sto := { s with ob := fun b => if b = a then some o else s.ob b }
def Sto.putL (s : Sto) (a : Addr) (xs : List D) : Sto := { s with ls := fun b => if b = a then some xs else s.ls b }
def Sto.putD (s : Sto) (a : Addr) (c : Dc) : Sto := { s with dc := fun b => if b = a then some c else s.dc b }
def Sto.only (p : Option Pen) : Sto := ⟨p, fun _ => none, fun _ => none, fun _ => none⟩
/-- the pairs of a dict -/
def PvR {κ : Type} (K : Fg) (F : Hp) (kvs : List (κ × D)) (vs : List (κ × V)) : Prop := vs.map (·.1) = kvs.map (·.1) ∧ DRs K F (kvs.map (·.2)) (vs.map (·.2))
theorem PvR.mono {κ : Type} {K : Fg} {F G : Hp} {kvs : List (κ × D)} {vs : List (κ × V)} (h : PvR K F kvs vs) (e : Le F G) : PvR K G kvs vs := ⟨h.1, DRs.mono e _ _ h.2⟩
def DcR (K : Fg) (F : Hp) : Dc → HO → Prop
  | .k kvs, u => ∃ vs, u = .dK vs ∧ PvR K F kvs vs
  | .t kvs, u => ∃ vs, u = .dT vs ∧ PvR K F kvs vs
theorem DcR.mono {K : Fg} {F G : Hp} {c : Dc} {u : HO} (h : DcR K F c u) (e : Le F G) : DcR K G c u := by
  cases c with
  | k kvs => exact h.imp fun vs q => ⟨q.1, q.2.mono e⟩
  | t kvs => exact h.imp fun vs q => ⟨q.1, q.2.mono e⟩
theorem DcR.nl {K : Fg} {F : Hp} {c : Dc} {xs : List V} (h : DcR K F c (.lst xs)) : False := by
  cases c with
  | k kvs => obtain ⟨vs, e, _⟩ := h; cases e
  | t kvs => obtain ⟨vs, e, _⟩ := h; cases e
theorem DcR.ni {K : Fg} {F : Hp} {c : Dc} {C dx : Addr} {fs : List (Str × V)} (h : DcR K F c (.ins C dx fs)) : False := by
  cases c with
  | k kvs => obtain ⟨vs, e, _⟩ := h; cases e
  | t kvs => obtain ⟨vs, e, _⟩ := h; cases e
def FldR (K : Fg) (F : Hp) : Sl → Option V → Prop
  | .un, o => o = none
  | .val d, o => ∃ v, o = some v ∧ DR K F d v
  | .ref a, o => o = some (.ref a)
  | _, _ => False
theorem FldR.mono {K : Fg} {F G : Hp} {s : Sl} {o : Option V} (h : FldR K F s o) (e : Le F G) : FldR K G s o := by
  cases s with
  | un => exact h
  | val d => exact h.imp fun v q => ⟨q.1, q.2.mono e⟩
  | ref a => exact h
  | own xs => exact h
  | bor xs => exact h
  | pen => exact h
  | scr ns => exact h
def isUn : Sl → Bool
  | .un => true
  | _ => false
def cntF (fs : List Sl) : Nat := (fs.filter fun s => !isUn s).length
structure ObR (K : Fg) (F : Hp) (o : Ob) (fvs : List (Str × V)) : Prop where
  len : o.fs.length = o.N.length
  nd : o.N.Nodup
  sz : o.N.length < 900
  cnt : fvs.length ≤ cntF o.fs
  fld : ∀ (i : Nat) (s : Sl) (x : Str), o.fs[i]? = some s → o.N[i]? = some x → FldR K F s (fvs.lookup x)
  out : ∀ x : Str, x ∉ o.N → fvs.lookup x = none
theorem ObR.mono {K : Fg} {F G : Hp} {o : Ob} {fvs : List (Str × V)} (h : ObR K F o fvs) (e : Le F G) : ObR K G o fvs := ⟨h.len, h.nd, h.sz, h.cnt, fun i s x h1 h2 => (h.fld i s x h1 h2).mono e, h.out⟩
structure StoR (K : Fg) (pa : Option Addr) (H F : Hp) (s : Sto) (T : Addr → Prop) : Prop where
  pen : PenR K F H pa s.pen
  ob : ∀ a o, s.ob a = some o → ∃ dx fvs, H a = some (.ins o.C dx fvs) ∧ ObR K F o fvs
  ls : ∀ b xs, s.ls b = some xs → ∃ vs, H b = some (.lst vs) ∧ DRs K F xs vs
  dc : ∀ b c, s.dc b = some c → ∃ u, H b = some u ∧ DcR K F c u
  ap : ∀ b, pa = some b → s.ob b = none ∧ s.ls b = none ∧ s.dc b = none
  t : ∀ b, T b ↔ (pa = some b ∨ s.ob b ≠ none ∨ s.ls b ≠ none ∨ s.dc b ≠ none)
theorem StoR.frame {K : Fg} {pa : Option Addr} {H F H' F' : Hp} {s : Sto} {T : Addr → Prop} (h : StoR K pa H F s T) (hH : ∀ b, T b → H' b = H b) (hF : Le F F') (hf : ∀ b, T b → F' b = none) : StoR K pa H' F' s T :=
  ⟨h.pen.frame (fun b e => hH b ((h.t b).mpr (.inl e))) hF fun b e => hf b ((h.t b).mpr (.inl e)),
   fun a o e => by
    obtain ⟨dx, fvs, h1, h2⟩ := h.ob a o e
    exact ⟨dx, fvs, by rw [hH a ((h.t a).mpr (.inr (.inl (by rw [e]; exact nofun))))]; exact h1, h2.mono hF⟩,
   fun b xs e => by
    obtain ⟨vs, h1, h2⟩ := h.ls b xs e
    exact ⟨vs, by rw [hH b ((h.t b).mpr (.inr (.inr (.inl (by rw [e]; exact nofun)))))]; exact h1, h2.mono hF⟩,
   fun b c e => by
    obtain ⟨u, h1, h2⟩ := h.dc b c e
    exact ⟨u, by rw [hH b ((h.t b).mpr (.inr (.inr (.inr (by rw [e]; exact nofun)))))]; exact h1, h2.mono hF⟩,
   h.ap, h.t⟩
instance stSto : StK Sto where
  look := fun s b => s.ls b
  R := fun K pa H F s T => StoR K pa H F s T
  frame := fun h hH hF hf => h.frame hH hF hf
  seen := fun h e => h.ls _ _ e
instance penSto : PenK Sto where
  toStK := stSto
  get := fun s => s.pen
  set := fun p s => { s with pen := p }
  pen := fun h => ⟨h.pen, fun b e => (h.t b).mpr (.inl e)⟩
  apart := fun {K pa H F s T b xs} h e z => by
    have := (StoR.ap h b z).2.1
    have e : s.ls b = some xs := e
    rw [this] at e
    cases e
  up := fun {K pa H F H' F' s T pn} h hH hF hf hp => by
    have h : StoR K pa H F s T := h
    refine (⟨hp, fun a o e => ?_, fun b xs e => ?_, fun b c e => ?_, h.ap, h.t⟩ : StoR K pa H' F' { s with pen := pn } T)
    · obtain ⟨dx, fvs, h1, h2⟩ := h.ob a o e
      refine ⟨dx, fvs, ?_, h2.mono hF⟩
      rw [hH a ((h.t a).mpr (.inr (.inl (by rw [show s.ob a = some o from e]; exact nofun)))) fun z => by
        have := (h.ap a z).1
        rw [show s.ob a = some o from e] at this
        cases this]
      exact h1
    · obtain ⟨vs, h1, h2⟩ := h.ls b xs e
      refine ⟨vs, ?_, h2.mono hF⟩
      rw [hH b ((h.t b).mpr (.inr (.inr (.inl (by rw [show s.ls b = some xs from e]; exact nofun))))) fun z => by
        have := (h.ap b z).2.1
        rw [show s.ls b = some xs from e] at this
        cases this]
      exact h1
    · obtain ⟨u, h1, h2⟩ := h.dc b c e
      refine ⟨u, ?_, h2.mono hF⟩
      rw [hH b ((h.t b).mpr (.inr (.inr (.inr (by rw [show s.dc b = some c from e]; exact nofun))))) fun z => by
        have := (h.ap b z).2.2
        rw [show s.dc b = some c from e] at this
        cases this]
      exact h1
/-! ### the store and the slots, changed together -/
section
variable {K : Fg} {B : Bs} {pa : Option Addr} {zs : List (Option V)} {H F H' : Hp} {ws : List Sl} {pn pn' : Sto}
theorem Rel.stoR (R : Rel K B pa zs H F ws pn) : ∃ T, StR K B pa zs H F ws pn T ∧ StoR K pa H F pn T := by
  obtain ⟨T, t⟩ := R.st
  exact ⟨T, t, t.r⟩
/-- cells of the store, and new ones, get another content -/
theorem Rel.reSto (R : Rel K B pa zs H F ws pn) {T T' : Addr → Prop} (t : StR K B pa zs H F ws pn T) (hH : ∀ b u, H b = some u → ¬ T b → H' b = some u) (hF : Le F H') (hr : StoR K pa H' F pn' T')
    (hT : ∀ b, T' b → T b ∨ (F b = none ∧ B.H0 b = none ∧ ∀ (i : Nat) (xs : List D), ws[i]? = some (.own xs) → zs[i]? ≠ some (some (.ref b)))) (hn : ∀ b, T' b → H' b ≠ none) (hp : ∀ b, H b ≠ none → H' b ≠ none) (hz : Szs H') : Rel K B pa zs H' F ws pn' := by
  have hown : ∀ (i : Nat) (xs : List D) (a : Addr), ws[i]? = some (.own xs) → zs[i]? = some (some (.ref a)) → H' a = H a ∧ F a = none ∧ ¬ T a := fun i xs a e1 e2 => by
    obtain ⟨o, g1, b, vs, g2, g3, _, g4, _⟩ := R.sl i _ e1
    rw [e2] at g1
    cases g1
    cases g2
    have hT' := t.ap i xs a e1 e2
    exact ⟨by rw [hH a _ g3 hT', g3], g4, hT'⟩
  refine ⟨R.len, hF, fun b u e n => ?_, R.f0, R.fr, fun i s e => ?_, R.inj, ⟨T', hr, hn, fun b hb => ?_, fun b hb => ?_, fun i xs a e1 e2 hb => ?_⟩, fun b hb => hp b (R.pal b hb), hz⟩
  · exact hH b u (R.base b u e n) (Rel.notT t (by rw [e]; exact nofun) n)
  · obtain ⟨o, e1, e2⟩ := R.sl i s e
    refine ⟨o, e1, e2.grow (fun xs a h1 h2 => ?_) (Le.refl _)⟩
    subst h1 h2
    exact ⟨(hown i xs a e e1).1, (hown i xs a e e1).2.1⟩
  · rcases hT b hb with z | z
    · exact t.fn b z
    · exact z.1
  · rcases hT b hb with z | z
    · exact t.bs b z
    · exact .inl z.2.1
  · rcases hT a hb with z | z
    · exact (hown i xs a e1 e2).2.2 z
    · exact z.2.2 i xs e1 e2
end
theorem Szs.upI {H : Hp} (z : Szs H) {p C dx : Addr} {fs : List (Str × V)} : Szs (upd H p (.ins C dx fs)) := fun a xs q => by
  by_cases e : a = p
  · subst e
    rw [upd_same] at q
    rcases q with q | ⟨o, q⟩ | q | ⟨o, q⟩ <;> cases q
  · rw [upd_ne e] at q
    exact z a xs q
theorem Szs.upO {H : Hp} (z : Szs H) {p x : Addr} : Szs (upd H p (.own x)) := fun a xs q => by
  by_cases e : a = p
  · subst e
    rw [upd_same] at q
    rcases q with q | ⟨o, q⟩ | q | ⟨o, q⟩ <;> cases q
  · rw [upd_ne e] at q
    exact z a xs q
/-! ### fields set -/
theorem putF_len {x : Str} {v : V} : ∀ {fs : List (Str × V)}, fs.lookup x ≠ none → (putF x v fs).length = fs.length
  | [], h => absurd rfl h
  | (g, y) :: r, h => by
    unfold putF
    by_cases e : g = x
    · rw [if_pos e]; rfl
    · rw [if_neg e, List.length_cons, List.length_cons, putF_len (fs := r)]
      rw [List.lookup_cons] at h
      have : (x == g) = false := beq_eq_false_iff_ne.mpr fun z => e z.symm
      rw [this] at h
      exact h
theorem cntF_le : ∀ fs : List Sl, cntF fs ≤ fs.length := fun fs => List.length_filter_le _ _
theorem cntF_set : ∀ {fs : List Sl} {i : Nat} {s t : Sl}, fs[i]? = some s → isUn t = false → cntF (fs.set i t) = cntF fs + (if isUn s then 1 else 0)
  | [], i, s, t, h, _ => by simp at h
  | f :: fs, 0, s, t, h, ht => by
    simp at h
    subst h
    unfold cntF
    rw [List.set_cons_zero, List.filter_cons, List.filter_cons]
    cases hf : isUn f <;> simp [ht]
  | f :: fs, i + 1, s, t, h, ht => by
    have ih := cntF_set (fs := fs) (i := i) (s := s) (t := t) (by simpa using h) ht
    unfold cntF at ih ⊢
    rw [List.set_cons_succ, List.filter_cons, List.filter_cons]
    cases hf : isUn f
    · simp only [Bool.not_false, if_true, List.length_cons, ih]
      omega
    · simpa using ih
theorem ObR.put {K : Fg} {F : Hp} {o : Ob} {fvs : List (Str × V)} {i : Nat} {x : Str} {s : Sl} {v : V} (h : ObR K F o fvs) (hx : o.N[i]? = some x) (hs : FldR K F s (some v)) : ObR K F { o with fs := o.fs.set i s } (putF x v fvs) := by
  have hi := (List.getElem?_eq_some_iff.mp hx).1
  have hun : isUn s = false := by
    cases s with
    | un => cases hs
    | _ => rfl
  obtain ⟨s0, hs0⟩ : ∃ s0, o.fs[i]? = some s0 := ⟨_, List.getElem?_eq_getElem (by rw [h.len]; exact hi)⟩
  have f0 := h.fld i s0 x hs0 hx
  refine ⟨by simp [h.len], h.nd, h.sz, ?_, fun j t y h1 h2 => ?_, fun y hy => ?_⟩
  · show (putF x v fvs).length ≤ cntF (o.fs.set i s)
    rw [cntF_set hs0 hun]
    have hc := h.cnt
    by_cases e : fvs.lookup x = none
    · have hu : isUn s0 = true := by
        rw [e] at f0
        cases s0 with
        | un => rfl
        | val d => obtain ⟨v, z, _⟩ := f0; cases z
        | ref a => cases f0
        | _ => exact f0.elim
      rw [hu, if_pos rfl]
      have := length_putF x v fvs
      omega
    · rw [putF_len e]
      omega
  · rw [lookup_putF]
    by_cases e : j = i
    · subst e
      have h1 : (o.fs.set j s)[j]? = some t := h1
      rw [List.getElem?_set_self (by rw [h.len]; exact hi)] at h1
      cases h1
      rw [hx] at h2
      cases h2
      rw [if_pos rfl]
      exact hs
    · have h1 : (o.fs.set i s)[j]? = some t := h1
      rw [List.getElem?_set_ne (Ne.symm e)] at h1
      have hne : y ≠ x := fun z => by
        subst z
        have hj := (List.getElem?_eq_some_iff.mp h2).1
        exact e ((List.getElem?_inj hj h.nd).mp (h2.trans hx.symm))
      rw [if_neg hne]
      exact h.fld j t y h1 h2
  · rw [lookup_putF, if_neg fun z => hy (by rw [z]; exact List.mem_of_getElem? hx)]
    exact h.out y hy
end Dk
set_option Elab.async false
set_option linter.all false
set_option maxRecDepth 100000
set_option maxHeartbeats 2000000
/-! Do2: attributes read and set. -/
namespace Dk
open PySem PySem.Spec PyProof.Rows L2
def refS (l : List Sl) (i : Nat) : Option Addr := match l[i]? with
  | some (.ref a) => some a
  | _ => none
theorem refS_some {l : List Sl} {i : Nat} {a : Addr} (h : refS l i = some a) : l[i]? = some (.ref a) := by
  unfold refS at h
  split at h
  · cases h; assumption
  · cases h
def fsO (s : Sto) (C : Addr) (N : List Str) (a : Addr) : Option (List Sl) := (s.ob a).bind fun o => if o.C = C ∧ o.N = N then some o.fs else none
theorem fsO_some {s : Sto} {C : Addr} {N : List Str} {a : Addr} {fs : List Sl} (h : fsO s C N a = some fs) : s.ob a = some ⟨C, N, fs⟩ := by
  unfold fsO at h
  obtain ⟨⟨c, n, f⟩, h1, h2⟩ := Option.bind_eq_some_iff.mp h
  obtain ⟨⟨rfl, rfl⟩, rfl⟩ := some_ite h2
  exact h1
theorem fsO_of {s : Sto} {C : Addr} {N : List Str} {a : Addr} {fs : List Sl} (h : s.ob a = some ⟨C, N, fs⟩) : fsO s C N a = some fs := by
  unfold fsO
  rw [h, Option.bind_some, if_pos ⟨rfl, rfl⟩]
def oAttr (i : Nat) (C : Addr) (N : List Str) (j : Nat) : OW Sto := fun ρ P => gets (refS ρ.sl i) fun a => gets (fsO ρ.pn C N a) fun fs => match fs[j]? with
  | some (.val d) => P (.tmp (.val d)) ρ
  | some (.ref b) => P (.fb b) ρ
  | _ => False
def dAttr (i : Nat) (C : Addr) (N : List Str) (j : Nat) : DW Sto := fun ρ P => gets (refS ρ.sl i) fun a => gets (fsO ρ.pn C N a) fun fs => match fs[j]? with
  | some (.val d) => P (.val d) ρ
  | _ => False
section
variable {K : Fg} {B : Bs} {pa : Option Addr} {σ : L2.St} {τ : List (Option V)} {H F : Hp} {ρ : En Sto} {θ : List Sl}
theorem ref_at (R : Rel K B pa (σ ++ τ) H F (ρ.sl ++ θ) ρ.pn) (hl : ρ.sl.length = σ.length) {i : Nat} {a : Addr} (h : refS ρ.sl i = some a) : σ[i]? = some (some (.ref a)) := by
  have h := refS_some h
  have hi := (List.getElem?_eq_some_iff.mp h).1
  obtain ⟨o, h1, h2⟩ := R.sl i _ (by rw [List.getElem?_append_left hi]; exact h)
  have h2 : o = some (.ref a) := h2
  subst h2
  exact left_get (by omega) h1
theorem obj_at {zs : List (Option V)} {ws : List Sl} {pn : Sto} (R : Rel K B pa zs H F ws pn) {C : Addr} {N : List Str} {a : Addr} {fs : List Sl} (h : fsO pn C N a = some fs) : ∃ dx fvs, H a = some (.ins C dx fvs) ∧ ObR K F ⟨C, N, fs⟩ fvs := by
  obtain ⟨T, t, r⟩ := R.stoR
  exact r.ob a _ (fsO_some h)
end
section
variable {X : Cx} {pos p1 p2 p3 : Pos} {C : Addr} {N : List Str} {x y : Str} {k : Nat} {te : DW Sto} {tb : OW Sto} {e b : Expr}
theorem co_attr (i j : Nat) (c : Cls X.K C) (n : NoAttr X.K C x) (hx : N[j]? = some x := by rfl) (hN : X.N[i]? = some y := by rfl) (hv : Vis X.env.scope y := by first | exact Or.inl rfl | exact Or.inr (Or.inl rfl) | exact Or.inr (Or.inr rfl)) (hd : (y == ("__debug__" : Str)) = false := by decide) (hcd : (y == ("__classdict__" : Str)) = false := by decide)
    (hbase : attributeBase (.Name y p1) x X.env (eval (.Name y p1) X.env) = eval (.Name y p1) X.env := by rfl) : CO (S := Sto) X (.Attribute (.Name y p1) x pos) (oAttr i C N j) :=
  pe_mono (pe_fld (pe_var hN hv hd hcd) hbase) fun σ H Q ⟨B, pa, τ, F, ρ, θ, P, R, hl, h, q⟩ => by
    obtain ⟨a, ea, h⟩ := gets_elim h
    obtain ⟨fs, ef, h⟩ := gets_elim h
    obtain ⟨dx, fvs, h1, h2⟩ := obj_at R ef
    cases hs : fs[j]? with
    | none => rw [hs] at h; exact h.elim
    | some s =>
      rw [hs] at h
      have f := h2.fld j s x hs hx
      cases s with
      | val d =>
        obtain ⟨v, f1, f2⟩ := f
        exact ⟨.ref a, ref_at R hl ea, a, C, dx, fvs, v, rfl, h1, c, n, f1, q _ _ v H F h hl (R.pushVal f2) (fun j e => by cases e)⟩
      | ref b => exact ⟨.ref a, ref_at R hl ea, a, C, dx, fvs, .ref b, rfl, h1, c, n, f, q _ _ (.ref b) H F h hl (R.push (s := .ref b) rfl fun _ => nofun) (fun j e => by cases e)⟩
      | _ => exact h.elim
theorem ce_attr (i j : Nat) (c : Cls X.K C) (n : NoAttr X.K C x) (hx : N[j]? = some x := by rfl) (hN : X.N[i]? = some y := by rfl) (hv : Vis X.env.scope y := by first | exact Or.inl rfl | exact Or.inr (Or.inl rfl) | exact Or.inr (Or.inr rfl)) (hd : (y == ("__debug__" : Str)) = false := by decide) (hcd : (y == ("__classdict__" : Str)) = false := by decide)
    (hbase : attributeBase (.Name y p1) x X.env (eval (.Name y p1) X.env) = eval (.Name y p1) X.env := by rfl) : CE (S := Sto) X (.Attribute (.Name y p1) x pos) (dAttr i C N j) :=
  pe_mono (pe_fld (pe_var hN hv hd hcd) hbase) fun σ H Q h => by
    obtain ⟨B, pa, τ, F, ρ, θ, P, R, hl, h, q⟩ := toE h
    obtain ⟨a, ea, h⟩ := gets_elim h
    obtain ⟨fs, ef, h⟩ := gets_elim h
    obtain ⟨dx, fvs, h1, h2⟩ := obj_at R ef
    cases hs : fs[j]? with
    | none => rw [hs] at h; exact h.elim
    | some s =>
      rw [hs] at h
      have f := h2.fld j s x hs hx
      cases s with
      | val d =>
        obtain ⟨v, f1, f2⟩ := f
        exact ⟨.ref a, ref_at R hl ea, a, C, dx, fvs, v, rfl, h1, c, n, f1, q (.val d) _ v H F h hl (R.pushVal f2)⟩
      | _ => exact h.elim
/-! self.x = e -/
def dSetF (i : Nat) (C : Addr) (N : List Str) (j : Nat) (te : DW Sto) : DS Sto := fun E ρ => te ρ fun r ρ1 => gets (refS ρ1.sl i) fun a => gets (fsO ρ1.pn C N a) fun fs => match r with
  | .val d => E.nx ⟨ρ1.sl, ρ1.pn.putO a ⟨C, N, fs.set j (.val d)⟩⟩
  | .own xs => ∀ b, b ≠ a → ρ1.pn.ls b = none → ρ1.pn.ob b = none → ρ1.pn.dc b = none → E.nx ⟨ρ1.sl, (ρ1.pn.putL b xs).putO a ⟨C, N, fs.set j (.ref b)⟩⟩
theorem cs_setF (i j : Nat) (c : Cls X.K C) (n : NoAttr X.K C x) (he : CE (S := Sto) X e te) (hx : N[j]? = some x := by rfl) (hN : X.N[i]? = some y := by rfl) (hv : Vis X.env.scope y := by first | exact Or.inl rfl | exact Or.inr (Or.inl rfl) | exact Or.inr (Or.inr rfl)) (hd : (y == ("__debug__" : Str)) = false := by decide) (hcd : (y == ("__classdict__" : Str)) = false := by decide)
    (hs : swapsWith e (some (.Attribute (.Name y p1) x p2)) pos.line X.env = pure false := by rfl) : CS (S := Sto) X (.Assign [.Attribute (.Name y p1) x p2] e pos) (dSetF i C N j te) :=
  ps_mono (ps_fld (pe_var hN hv hd hcd) he hs) fun Z σ H ⟨B, pa, τ, F, ρ, θ, E, R, hl, h, q⟩ =>
    ofE ⟨B, pa, τ, F, ρ, θ, _, R, hl, h, fun r ρ1 v H1 F1 h1 l1 R1 => by
      obtain ⟨a, ea, h1⟩ := gets_elim h1
      obtain ⟨fs, ef, h1⟩ := gets_elim h1
      have R3 := R1.pop
      obtain ⟨dx, fvs, o1, o2⟩ := obj_at R3 ef
      have hsz : fvs.length < 1000 := by have := o2.cnt; have := cntF_le fs; have := o2.len; have := o2.sz; simp at *; omega
      refine ⟨.ref a, ref_at R3 l1 ea, a, C, dx, fvs, rfl, o1, c, n, hsz, ?_⟩
      obtain ⟨T, t, r3⟩ := R3.stoR
      have hTa : T a := (r3.t a).mpr (.inr (.inl (by rw [fsO_some ef]; exact nofun)))
      have hpa : pa ≠ some a := fun z => by
        have := (r3.ap a z).1
        rw [fsO_some ef] at this
        cases this
      have hH : ∀ b u, H1 b = some u → ¬ T b → upd H1 a (.ins C dx (putF x v fvs)) b = some u := fun b u e n => by rw [upd_ne fun z => n (by rw [z]; exact hTa)]; exact e
      have hF : Le F1 (upd H1 a (.ins C dx (putF x v fvs))) := fun b u e => by
        rw [upd_ne fun z => by rw [z, t.fn a hTa] at e; cases e]; exact R3.fh _ _ e
      have hp : ∀ b, H1 b ≠ none → upd H1 a (.ins C dx (putF x v fvs)) b ≠ none := fun b h => by
        by_cases z : b = a
        · rw [z, upd_same]; exact nofun
        · rw [upd_ne z]; exact h
      have hlsa : ∀ b xs, ρ1.pn.ls b = some xs → b ≠ a := fun b xs e z => by
        obtain ⟨vs, g, _⟩ := r3.ls b xs e
        rw [z, o1] at g
        cases g
      have hdca : ∀ b c, ρ1.pn.dc b = some c → b ≠ a := fun b c e z => by
        obtain ⟨u, g, gr⟩ := r3.dc b c e
        rw [z, o1] at g
        cases g
        exact gr.ni
      have hpen : PenR X.K F1 (upd H1 a (.ins C dx (putF x v fvs))) pa ρ1.pn.pen := r3.pen.frame (fun b e => upd_ne fun z => hpa (by rw [← z]; exact e)) (Le.refl _) (fun b e => t.fn b ((r3.t b).mpr (.inl e)))
      cases r with
      | val d =>
        obtain ⟨⟨v', e', hd⟩, _⟩ := Rel.last (s := .val d) R1
        cases e'
        have hr : StoR X.K pa (upd H1 a (.ins C dx (putF x v fvs))) F1 (ρ1.pn.putO a ⟨C, N, fs.set j (.val d)⟩) T := by
          refine ⟨hpen, fun a' o e => ?_, fun b xs e => ?_, fun b c e => ?_, fun b z => ⟨?_, (r3.ap b z).2⟩, fun b => ?_⟩
          · by_cases z : a' = a
            · subst z
              have e : (if a' = a' then some (⟨C, N, fs.set j (.val d)⟩ : Ob) else ρ1.pn.ob a') = some o := e
              rw [if_pos rfl] at e
              cases e
              exact ⟨dx, _, upd_same, o2.put hx ⟨v, rfl, hd⟩⟩
            · have e : (if a' = a then some (⟨C, N, fs.set j (.val d)⟩ : Ob) else ρ1.pn.ob a') = some o := e
              rw [if_neg z] at e
              rw [upd_ne z]
              exact r3.ob a' o e
          · rw [upd_ne (hlsa b xs e)]
            exact r3.ls b xs e
          · rw [upd_ne (hdca b c e)]
            exact r3.dc b c e
          · show (if b = a then some (⟨C, N, fs.set j (.val d)⟩ : Ob) else ρ1.pn.ob b) = none
            rw [if_neg fun y => hpa (by rw [← y]; exact z)]
            exact (r3.ap b z).1
          · rw [r3.t b]
            show _ ↔ (pa = some b ∨ (if b = a then some (⟨C, N, fs.set j (.val d)⟩ : Ob) else ρ1.pn.ob b) ≠ none ∨ ρ1.pn.ls b ≠ none ∨ ρ1.pn.dc b ≠ none)
            by_cases z : b = a
            · rw [if_pos z]
              have : ρ1.pn.ob b ≠ none := by rw [z, fsO_some ef]; exact nofun
              exact ⟨fun _ => .inr (.inl nofun), fun _ => .inr (.inl this)⟩
            · rw [if_neg z]
        exact q.nx σ ⟨ρ1.sl, ρ1.pn.putO a ⟨C, N, fs.set j (.val d)⟩⟩ _ F1 h1 rfl l1 (R3.reSto t hH hF hr (fun b hb => .inl hb) (fun b hb => hp b (t.hn b hb)) hp (R3.sz.upI))
      | own xs =>
        obtain ⟨⟨p, vs, e', g1, g2, g3, g4⟩, g5⟩ := Rel.last (s := .own xs) R1
        cases e'
        obtain ⟨T1, t1⟩ := R1.st
        have hpT : ¬ T p := fun hb => by
          have : T1 p := by
            have r1 : StoR X.K pa H1 F1 ρ1.pn T1 := t1.r
            exact (r1.t p).mpr ((r3.t p).mp hb)
          exact t1.ap _ xs p (app_last _ _) g5 this
        have hpa2 : p ≠ a := fun z => hpT (by rw [z]; exact hTa)
        have hlp : ρ1.pn.ls p = none := by
          cases q : ρ1.pn.ls p with
          | none => rfl
          | some u => exact absurd ((r3.t p).mpr (.inr (.inr (.inl (by rw [q]; exact nofun))))) hpT
        have hdp : ρ1.pn.dc p = none := by
          cases q : ρ1.pn.dc p with
          | none => rfl
          | some u => exact absurd ((r3.t p).mpr (.inr (.inr (.inr (by rw [q]; exact nofun))))) hpT
        have hop : ρ1.pn.ob p = none := by
          cases q : ρ1.pn.ob p with
          | none => rfl
          | some u => exact absurd ((r3.t p).mpr (.inr (.inl (by rw [q]; exact nofun)))) hpT
        have hpp : pa ≠ some p := fun z => hpT ((r3.t p).mpr (.inl z))
        have hr : StoR X.K pa (upd H1 a (.ins C dx (putF x (.ref p) fvs))) F1 ((ρ1.pn.putL p xs).putO a ⟨C, N, fs.set j (.ref p)⟩) (fun b => T b ∨ b = p) := by
          refine ⟨hpen, fun a' o e => ?_, fun b ys e => ?_, fun b c e => ?_, fun b z => ⟨?_, ?_, (r3.ap b z).2.2⟩, fun b => ?_⟩
          · have e : (if a' = a then some (⟨C, N, fs.set j (.ref p)⟩ : Ob) else ρ1.pn.ob a') = some o := e
            by_cases z : a' = a
            · rw [if_pos z] at e
              have e2 := Option.some.inj e
              subst z
              rw [← e2]
              exact ⟨dx, _, upd_same, o2.put (s := .ref p) (v := .ref p) hx rfl⟩
            · rw [if_neg z] at e
              rw [upd_ne z]
              exact r3.ob a' o e
          · have e : (if b = p then some xs else ρ1.pn.ls b) = some ys := e
            by_cases z : b = p
            · rw [if_pos z] at e
              cases e
              subst z
              rw [upd_ne hpa2]
              exact ⟨vs, g1, g2⟩
            · rw [if_neg z] at e
              rw [upd_ne (hlsa b ys e)]
              exact r3.ls b ys e
          · rw [upd_ne (hdca b c e)]
            exact r3.dc b c e
          · show (if b = a then some (⟨C, N, fs.set j (.ref p)⟩ : Ob) else ρ1.pn.ob b) = none
            rw [if_neg fun y => hpa (by rw [← y]; exact z)]
            exact (r3.ap b z).1
          · show (if b = p then some xs else ρ1.pn.ls b) = none
            rw [if_neg fun y => hpp (by rw [← y]; exact z)]
            exact (r3.ap b z).2.1
          · show (T b ∨ b = p) ↔ (pa = some b ∨ (if b = a then some (⟨C, N, fs.set j (.ref p)⟩ : Ob) else ρ1.pn.ob b) ≠ none ∨ (if b = p then some xs else ρ1.pn.ls b) ≠ none ∨ ρ1.pn.dc b ≠ none)
            rw [r3.t b]
            by_cases z : b = p
            · rw [if_pos z]
              exact ⟨fun _ => .inr (.inr (.inl nofun)), fun _ => .inr z⟩
            · rw [if_neg z]
              by_cases y : b = a
              · rw [if_pos y]
                exact ⟨fun _ => .inr (.inl nofun), fun _ => .inl (.inr (.inl (by rw [y, fsO_some ef]; exact nofun)))⟩
              · rw [if_neg y]
                exact ⟨fun h => h.elim id fun h => absurd h z, .inl⟩
        refine q.nx σ ⟨ρ1.sl, (ρ1.pn.putL p xs).putO a ⟨C, N, fs.set j (.ref p)⟩⟩ _ F1 (h1 p hpa2 hlp hop hdp) rfl l1 (R3.reSto t hH hF hr (fun b hb => hb.imp id fun z => ?_) (fun b hb => ?_) hp (R3.sz.upI))
        · subst z
          refine ⟨g3, g4, fun i' ys e1 e2 => ?_⟩
          have hi' := (List.getElem?_eq_some_iff.mp e1).1
          have := R1.inj i' _ ys xs b (app_get e1) (app_last _ _) (app_get e2) g5
          omega
        · rcases hb with hb | hb
          · exact hp b (t.hn b hb)
          · rw [hb]
            exact hp p (by rw [g1]; exact nofun)⟩
end
end Dk
set_option Elab.async false
set_option linter.all false
set_option maxRecDepth 100000
set_option maxHeartbeats 2000000
/-! Do3: methods of the program's classes, objects made, places of field lists set. -/
namespace Dk
open PySem PySem.Spec PyProof.Rows L2
def recvA (ρ : List Sl) : Tk → Option Addr
  | .fb a => some a
  | .slot i => refS ρ i
  | _ => none
/-- o.m(..) -/
def dMeth (to : OW Sto) (C : Addr) (N : List Str) (n : Nat) (dsp : DSp Sto) (ta : AW Sto) : DW Sto := fun ρ P => to ρ fun k ρ0 => gets (recvA ρ0.sl k) fun a => (fsO ρ0.pn C N a).isSome = true ∧ ta ρ0 fun ks ρ1 => gets (toArgs ρ1 ks) fun as => as.length + 1 = n ∧ dsp (.ref a :: as) ρ1.pn fun d pn' => P (.val d) ⟨ρ1.sl, pn'⟩
section
variable {K : Fg} {B : Bs} {pa : Option Addr} {σ : L2.St} {τ : List (Option V)} {H F : Hp} {ρ : En Sto} {θ : List Sl}
theorem recv_at {k : Tk} {v : V} {a : Addr} (R : Rel K B pa (σ ++ τ ++ [some v]) H F (ρ.sl ++ θ ++ [k.sl]) ρ.pn) (hl : ρ.sl.length = σ.length) (hs : ∀ i, k = .slot i → σ[i]? = some (some v)) (h : recvA ρ.sl k = some a) : v = .ref a := by
  cases k with
  | tmp r => cases h
  | bt xs => cases h
  | fb b =>
    cases h
    obtain ⟨h1, _⟩ := Rel.last (s := .ref a) R
    exact Option.some.inj h1
  | slot i =>
    have := ref_at R.pop hl (show refS ρ.sl i = some a from h)
    rw [hs i rfl] at this
    exact Option.some.inj (Option.some.inj this)
/-- behind a call -/
theorem callS_fin {n : Nat} {dsp : DSp Sto} {P : D → Sto → Prop} {Q : VK} {as : List Arg} {vs : List V} {T : Addr → Prop} (R2 : Rel K B pa (σ ++ τ) H F (ρ.sl ++ θ) ρ.pn) (t2 : StR K B pa (σ ++ τ) H F (ρ.sl ++ θ) ρ.pn T) (hA : ArgsR K H F pa T as vs) (hn : as.length = n) (hd : dsp as ρ.pn P)
    (q : ∀ d pn' v H' F', P d pn' → Rel K B pa (σ ++ τ ++ [some v]) H' F' (ρ.sl ++ θ ++ [.val d]) pn' → Q v H') : spOf K n dsp vs H Q E0 :=
  ⟨F, pa, T, as, ρ.pn, P, R2.sz, R2.fh, hA, t2.r, fun b hb => ⟨t2.hn b hb, t2.fn b hb⟩, hn, hd, fun d pn' v H' F' T' hp hz hF hFH hfr hH hr hT hpl hv =>
    q d pn' v H' F' hp ((R2.called t2 hH hF hFH hfr hr (fun b hb => (hT b hb).1) (fun b hb => (hT b hb).2.1) (fun b hb => (hT b hb).2.2) (fun b hb => by
      by_cases hTb : T b
      · exact hpl b hTb
      · obtain ⟨u, e⟩ := Option.ne_none_iff_exists'.mp hb
        rw [hH b u e hTb]
        exact nofun) hz).pushVal hv)⟩
end
section
variable {X : Cx} {CX : CXT} {k : Nat} {f C : Addr} {fd : FuncData} {ps : List Str} {sp : Sp} {x m : Str} {p pos apos : Pos} {e o : Expr} {es : List Expr} {ta : TE} {t : TA} {E : XK}
theorem pe_methG {pl : Sem Bool} (he : PE X o ta) (c : Cls X.K C) (hm : Meth X.K C m f) (F : FnG X.prog X.w X.K X.mg X.base CX k f fd ps sp) (hr : Room k X.A) (hgd : X.A.guards = some []) (hb : Binds X.K fd ps []) (hx : Passes CX X E) (ha : PA X (e :: es) t)
    (hst : starEach (e :: es) X.env = (false, eval e X.env) :: starEach es X.env) (hpl : (backTo pos (starEach es X.env)).any (·.1) = false)
    (ht : eval (.Call (.Attribute o m apos) (e :: es) [] pos) X.env = (do
      let ov ← eval o X.env
      standAt apos.atName
      let (f, first) ← holding [ov] (getMethod ov m pl)
      callWith pos f first (backTo pos (starEach (e :: es) X.env)) (backToKw pos (keywordEach [] X.env)))) :
    PE X (.Call (.Attribute o m apos) (e :: es) [] pos) (tMeth C m sp [] E ta t) := by
  refine ⟨fun pins s σ H Q I h => PySem.W.methodCall_KW (pl := pl) (thn (he.run pins s σ H _ I h) fun u s1 ⟨x, H1, I1, rx, a, dx, fs, ex, ea, l, q⟩ => ?_) ht⟩
  subst ex
  obtain rfl : u = Value.ref a := rx
  refine getmeth_ok I1 ea c hm l (PySem.W.callWith_K (first := [.ref a]) (h₀ := X.base) I.ok.mod.kin hm.kp (thn (ha.run pos pins s1 σ H1 _ I1 q) fun us s2 ⟨vs, H2, I2, r, q2⟩ => ⟨I2.kIn, ?_⟩) hst hpl)
  exact run_fng (us := .ref a :: us) (vs := .ref a :: vs) F hr hgd hb .nil hx I2 (.cons rfl r) q2
theorem pe_methG0 {pl : Sem Bool} (he : PE X o ta) (c : Cls X.K C) (hm : Meth X.K C m f) (F : FnG X.prog X.w X.K X.mg X.base CX k f fd ps sp) (hr : Room k X.A) (hgd : X.A.guards = some []) (hb : Binds X.K fd ps []) (hx : Passes CX X E)
    (ht : eval (.Call (.Attribute o m apos) [] [] pos) X.env = (do
      let ov ← eval o X.env
      standAt apos.atName
      let (f, first) ← holding [ov] (getMethod ov m pl)
      callWith pos f first (backTo pos (starEach [] X.env)) (backToKw pos (keywordEach [] X.env)))) :
    PE X (.Call (.Attribute o m apos) [] [] pos) (tMeth C m sp [] E ta tNil) := by
  refine ⟨fun pins s σ H Q I h => PySem.W.methodCall_KW (pl := pl) (thn (he.run pins s σ H _ I h) fun u s1 ⟨x, H1, I1, rx, a, dx, fs, ex, ea, l, q⟩ => ?_) ht⟩
  subst ex
  obtain rfl : u = Value.ref a := rx
  refine getmeth_ok I1 ea c hm l ?_
  exact PySem.W.callWith_K0 (first := [.ref a]) I1.kIn hm.kp (run_fng (us := [.ref a]) (vs := [.ref a]) F hr hgd hb .nil hx I1 (.cons rfl .nil) q)
theorem make_gd {A : Around} (h : A.guards = some []) (args : Args) : (A.under (.builtin "type.__call__" args)).guards = some [] := by
  have e : (Code.builtin "type.__call__" args).guards = [] := by
    unfold Code.guards
    rw [if_neg]
    show ¬ (guardIds.contains "type.__call__" = true)
    decide +kernel
  unfold Around.under
  simp only [e]
  exact h
theorem run_makeG {pins : List (Addr × Obj)} {σ : L2.St} {H : Hp} {s : Shared} {Q : VK} {us : List Value} {vs : List V} (M : Mk X.K C f) (F : FnG X.prog X.w X.K X.mg X.base CX k f fd ps sp) (hr : Room (k + 1) X.A) (hgd : X.A.guards = some []) (hb : Binds X.K fd ps [])
    (hx : Passes CX X E) (I : L2.Inv X pins σ H s) (r : Vals vs us)
    (h : ∀ x dx, H x = none → H dx = none → dx ≠ x → sp (.ref x :: (vs ++ [])) (upd (upd H dx (.own x)) x (.ins C dx [])) (fun v H2 => v = .non ∧ Q (.ref x) H2) E) :
    wpAny (model X.prog X.w) X.A (call (.ref C) us) (EP X pins σ Q) X.xe s := by
  have hq := h (s.heap.objs.size + 1) s.heap.objs.size (I.hok.fresh (Nat.le_succ _)) (I.hok.fresh (Nat.le_refl _)) (Nat.ne_of_lt (Nat.lt_succ_self _))
  rw [List.append_nil] at hq
  have I2 := L2.Inv.made (C := C) I
  have r2 : Vals (V.ref (s.heap.objs.size + 1) :: vs) (Value.ref (s.heap.objs.size + 1) :: us) := .cons rfl r
  have hl : ((Value.ref (s.heap.objs.size + 1) :: us) ++ []).length = ps.length := by
    have e := r2.length
    rw [F.len _ _ _ _ hq] at e
    rw [List.append_nil]
    exact e.symm
  have hb2 := hb _ (Value.ref (s.heap.objs.size + 1) :: us) I2.kIn hl
  rw [List.append_nil] at hb2
  refine wpAny_call (make_map (f := f) I.kIn M.makes M.init (beq_iff_eq.mp M.fn) (codeAny_mono (F.run _ X.stack _ _ ⟨Value.ref (s.heap.objs.size + 1) :: us, []⟩ (Value.ref (s.heap.objs.size + 1) :: us) _ _ E (hr.make C us []) (make_gd hgd _)
    (I2.env0.make C us []) hb2 r2 hq) fun r s' hq' => ?_))
  cases r with
  | error e => exact hx pins σ _ _ e s' I2 hq'
  | ok fl =>
    cases fl with
    | ret u =>
      obtain ⟨v, H', I3, rv, ev, q3⟩ := I2.after hq'
      subst ev
      exact ⟨rv, ⟨V.ref (s.heap.objs.size + 1), H', I3, rfl, q3⟩⟩
    | next => exact False.elim hq'
    | brk => exact False.elim hq'
    | cont => exact False.elim hq'
theorem pe_makeG (M : Mk X.K C f) (F : FnG X.prog X.w X.K X.mg X.base CX k f fd ps sp) (hr : Room (k + 1) X.A) (hgd : X.A.guards = some []) (hg : Gl X x) (hm : X.mg x = some (.ref C)) (hb : Binds X.K fd ps []) (hx : Passes CX X E)
    (ha : PA X (e :: es) t) (hdb : (x == ("__debug__" : Str)) = false := by decide) (he : starEach (e :: es) X.env = (false, eval e X.env) :: starEach es X.env := by rfl) (hpl : (backTo pos (starEach es X.env)).any (·.1) = false := by rfl) :
    PE X (.Call (.Name x p) (e :: es) [] pos) (tMake C sp [] E t) :=
  ⟨fun pins s σ H Q I h => wpAny_Call_Name_kw (ld_glob I hg hm (PySem.W.callWith_K (h₀ := X.base) I.ok.mod.kin M.kp (thn (ha.run pos pins s σ H _ I h) fun us s1 ⟨vs, H1, I1, r, q⟩ => ⟨I1.kIn, run_makeG M F hr hgd hb hx I1 r q⟩) he hpl) hdb)⟩
theorem pe_makeG0 (M : Mk X.K C f) (F : FnG X.prog X.w X.K X.mg X.base CX k f fd ps sp) (hr : Room (k + 1) X.A) (hgd : X.A.guards = some []) (hg : Gl X x) (hm : X.mg x = some (.ref C)) (hb : Binds X.K fd ps []) (hx : Passes CX X E)
    (hdb : (x == ("__debug__" : Str)) = false := by decide) : PE X (.Call (.Name x p) [] [] pos) (tMake C sp [] E tNil) :=
  ⟨fun pins s σ H Q I h => wpAny_Call_Name_kw (ld_glob I hg hm (PySem.W.callWith_K0 I.kIn M.kp (run_makeG (us := []) M F hr hgd hb hx I .nil h)) hdb)⟩
end
end Dk
set_option Elab.async false
set_option linter.all false
set_option maxRecDepth 100000
set_option maxHeartbeats 2000000
/-! Do4: the same over data. -/
namespace Dk
open PySem PySem.Spec PyProof.Rows L2
/-- C(..) -/
def oMake (C : Addr) (N : List Str) (n : Nat) (dsp : DSp Sto) (ta : AW Sto) : OW Sto := fun ρ P => ta ρ fun ks ρ1 => gets (toArgs ρ1 ks) fun as => as.length + 1 = n ∧
  ∀ a, ρ1.pn.ob a = none → ρ1.pn.ls a = none → ρ1.pn.dc a = none → dsp (.ref a :: as) (ρ1.pn.putO a ⟨C, N, List.replicate N.length .un⟩) fun d pn' => d = .none ∧ P (.fb a) ⟨ρ1.sl, pn'⟩
theorem cntF_un : ∀ n : Nat, cntF (List.replicate n .un) = 0
  | 0 => rfl
  | n + 1 => by
    have := cntF_un n
    unfold cntF at this ⊢
    rw [List.replicate_succ, List.filter_cons]
    simpa [isUn] using this
section
variable {K : Fg} {B : Bs} {pa : Option Addr} {zs : List (Option V)} {H F : Hp} {ws : List Sl} {pn : Sto}
/-- a new object in the store -/
theorem Rel.newO (R : Rel K B pa zs H F ws pn) {C x dx : Addr} {N : List Str} (hx : H x = none) (hdx : H dx = none) (ne : dx ≠ x) (nd : N.Nodup) (nz : N.length < 900) :
    Rel K B pa zs (upd (upd H dx (.own x)) x (.ins C dx [])) F ws (pn.putO x ⟨C, N, List.replicate N.length .un⟩) ∧ pn.ob x = none ∧ pn.ls x = none ∧ pn.dc x = none := by
  have R1 : Rel K B pa zs (upd H dx (.own x)) F ws pn := R.grow (le_upd hdx) (Le.refl _) (R.fh.trans (le_upd hdx)) (fun b u e => .inl e) R.sz.upO
  have hx1 : upd H dx (.own x) x = none := by rw [upd_ne (Ne.symm ne)]; exact hx
  obtain ⟨T, t, r⟩ := R1.stoR
  obtain ⟨n1, n2, n3⟩ := R1.hnone hx1
  have hTx : ¬ T x := fun h => t.hn x h hx1
  have ho : pn.ob x = none := by
    cases q : pn.ob x with
    | none => rfl
    | some u => exact absurd ((r.t x).mpr (.inr (.inl (by rw [q]; exact nofun)))) hTx
  have hl : pn.ls x = none := by
    cases q : pn.ls x with
    | none => rfl
    | some u => exact absurd ((r.t x).mpr (.inr (.inr (.inl (by rw [q]; exact nofun))))) hTx
  have hdc : pn.dc x = none := by
    cases q : pn.dc x with
    | none => rfl
    | some u => exact absurd ((r.t x).mpr (.inr (.inr (.inr (by rw [q]; exact nofun))))) hTx
  have hpx : pa ≠ some x := fun z => hTx ((r.t x).mpr (.inl z))
  refine ⟨?_, ho, hl, hdc⟩
  have old : ∀ b, upd H dx (.own x) b ≠ none → upd (upd H dx (.own x)) x (.ins C dx []) b = upd H dx (.own x) b := fun b h => upd_ne fun z => h (by rw [z]; exact hx1)
  have hr : StoR K pa (upd (upd H dx (.own x)) x (.ins C dx [])) F (pn.putO x ⟨C, N, List.replicate N.length .un⟩) (fun b => T b ∨ b = x) := by
    refine ⟨r.pen.frame (fun b e => old b (t.hn b ((r.t b).mpr (.inl e)))) (Le.refl _) (fun b e => t.fn b ((r.t b).mpr (.inl e))), fun a' o e => ?_, fun b xs e => ?_, fun b c e => ?_, fun b z => ⟨?_, (r.ap b z).2⟩, fun b => ?_⟩
    · have e : (if a' = x then some (⟨C, N, List.replicate N.length .un⟩ : Ob) else pn.ob a') = some o := e
      by_cases z : a' = x
      · rw [if_pos z] at e
        have e2 := Option.some.inj e
        subst z
        rw [← e2]
        refine ⟨dx, [], upd_same, ⟨by simp, nd, nz, by show 0 ≤ _; exact Nat.zero_le _, fun i s y h1 _ => ?_, fun _ _ => rfl⟩⟩
        have h1 : (List.replicate N.length Sl.un)[i]? = some s := h1
        rw [List.getElem?_replicate] at h1
        split at h1
        · cases h1; rfl
        · cases h1
      · rw [if_neg z] at e
        rw [old a' (t.hn a' ((r.t a').mpr (.inr (.inl (by rw [e]; exact nofun)))))]
        exact r.ob a' o e
    · have e : pn.ls b = some xs := e
      rw [old b (t.hn b ((r.t b).mpr (.inr (.inr (.inl (by rw [e]; exact nofun))))))]
      exact r.ls b xs e
    · have e : pn.dc b = some c := e
      rw [old b (t.hn b ((r.t b).mpr (.inr (.inr (.inr (by rw [e]; exact nofun))))))]
      exact r.dc b c e
    · show (if b = x then some (⟨C, N, List.replicate N.length .un⟩ : Ob) else pn.ob b) = none
      rw [if_neg fun y => hpx (by rw [← y]; exact z)]
      exact (r.ap b z).1
    · show (T b ∨ b = x) ↔ (pa = some b ∨ (if b = x then some (⟨C, N, List.replicate N.length .un⟩ : Ob) else pn.ob b) ≠ none ∨ pn.ls b ≠ none ∨ pn.dc b ≠ none)
      rw [r.t b]
      by_cases z : b = x
      · rw [if_pos z]
        exact ⟨fun _ => .inr (.inl nofun), fun _ => .inr z⟩
      · rw [if_neg z]
        exact ⟨fun h => h.elim id fun h => absurd h z, .inl⟩
  refine R1.reSto t (fun b u e n => ?_) (fun b u e => ?_) hr (fun b hb => hb.imp id fun z => ?_) (fun b hb => ?_) (fun b h => by rw [old b h]; exact h) R1.sz.upI
  · rw [old b (by rw [e]; exact nofun)]; exact e
  · have := R1.fh _ _ e
    rw [old b (by rw [this]; exact nofun)]; exact this
  · subst z
    refine ⟨n1, n2, fun i xs e1 e2 => ?_⟩
    obtain ⟨o, g1, a, vs, g2, g3, _⟩ := R1.sl i _ e1
    rw [e2] at g1
    cases g1
    cases g2
    rw [hx1] at g3
    cases g3
  · rcases hb with hb | hb
    · rw [old b (t.hn b hb)]; exact t.hn b hb
    · rw [hb, upd_same]; exact nofun
/-- a list of the store gets another content -/
theorem Rel.putL (R : Rel K B pa zs H F ws pn) {b : Addr} {xs ys : List D} {vs : List V} (hb : pn.ls b = some xs) (h : DRs K F ys vs) (hz : vs.length ≤ sizeLine) : Rel K B pa zs (upd H b (.lst vs)) F ws (pn.putL b ys) := by
  obtain ⟨T, t, r⟩ := R.stoR
  have hTb : T b := (r.t b).mpr (.inr (.inr (.inl (by rw [hb]; exact nofun))))
  have hpb : pa ≠ some b := fun z => by
    have := (r.ap b z).2.1
    rw [hb] at this
    cases this
  obtain ⟨vs0, g1, _⟩ := r.ls b xs hb
  have hr : StoR K pa (upd H b (.lst vs)) F (pn.putL b ys) T := by
    refine ⟨r.pen.frame (fun c e => upd_ne fun z => hpb (by rw [← z]; exact e)) (Le.refl _) (fun c e => t.fn c ((r.t c).mpr (.inl e))), fun a o e => ?_, fun c zs e => ?_, fun c q e => ?_, fun c z => ⟨(r.ap c z).1, ?_, (r.ap c z).2.2⟩, fun c => ?_⟩
    · obtain ⟨dx, fvs, o1, o2⟩ := r.ob a o e
      exact ⟨dx, fvs, by rw [upd_ne fun z => by rw [z, g1] at o1; cases o1]; exact o1, o2⟩
    · have e : (if c = b then some ys else pn.ls c) = some zs := e
      by_cases z : c = b
      · rw [if_pos z] at e
        cases e
        subst z
        exact ⟨vs, upd_same, h⟩
      · rw [if_neg z] at e
        rw [upd_ne z]
        exact r.ls c zs e
    · obtain ⟨u, h1, h2⟩ := r.dc c q e
      exact ⟨u, by rw [upd_ne fun z => by rw [z, g1] at h1; cases h1; exact h2.nl]; exact h1, h2⟩
    · show (if c = b then some ys else pn.ls c) = none
      rw [if_neg fun y => hpb (by rw [← y]; exact z)]
      exact (r.ap c z).2.1
    · rw [r.t c]
      show _ ↔ (pa = some c ∨ pn.ob c ≠ none ∨ (if c = b then some ys else pn.ls c) ≠ none ∨ pn.dc c ≠ none)
      by_cases z : c = b
      · rw [if_pos z]
        exact ⟨fun _ => .inr (.inr (.inl nofun)), fun _ => .inr (.inr (.inl (by rw [z, hb]; exact nofun)))⟩
      · rw [if_neg z]
  have hp : ∀ c, H c ≠ none → upd H b (.lst vs) c ≠ none := fun c h => by
    by_cases z : c = b
    · rw [z, upd_same]; exact nofun
    · rw [upd_ne z]; exact h
  exact R.reSto t (fun c u e n => by rw [upd_ne fun z => n (by rw [z]; exact hTb)]; exact e) (fun c u e => by rw [upd_ne fun z => by rw [z, t.fn b hTb] at e; cases e]; exact R.fh _ _ e) hr (fun c hc => .inl hc) (fun c hc => hp c (t.hn c hc)) hp (R.sz.upL hz)
end
section
variable {X : Cx} {k : Nat} {f C : Addr} {N : List Str} {fd : FuncData} {ps : List Str} {dsp : DSp Sto} {x m : Str} {p pos apos : Pos} {e o : Expr} {es : List Expr} {to : OW Sto} {ta : AW Sto}
theorem liftA_nil {S : Type} [StK S] {K : Fg} {σ : L2.St} {H : Hp} {Q : List V → Hp → Prop} (h : liftA (S := S) K aNil σ H Q) : Q [] H := by
  obtain ⟨B, pa, τ, F, ρ, θ, P, R, hl, h, q⟩ := h
  exact q [] ρ [] H F h hl rfl (by simpa using R) (by simp)
theorem liftO_mono {S : Type} [StK S] {K : Fg} {t : OW S} {σ : L2.St} {H : Hp} {Q Q' : VK} (h : liftO K t σ H Q) (m : ∀ v H, Q v H → Q' v H) : liftO K t σ H Q' := by
  obtain ⟨B, pa, τ, F, ρ, θ, P, R, hl, h, q⟩ := h
  exact ⟨B, pa, τ, F, ρ, θ, P, R, hl, h, fun k ρ' v H' F' a b c d => m v H' (q k ρ' v H' F' a b c d)⟩
theorem toArgs_sl {S : Type} [StK S] {sl : List Sl} {p q : S} : ∀ ks : List Tk, toArgs (⟨sl, p⟩ : En S) ks = toArgs (⟨sl, q⟩ : En S) ks
  | [] => rfl
  | k :: ks => by
    show (toArg _ k).bind _ = (toArg _ k).bind _
    rw [toArgs_sl ks]
    cases k <;> rfl
theorem meth_step {K : Fg} {σ : L2.St} {H : Hp} {Q : VK} (hm : m ∉ N) (h : liftO K (tmpD (dMeth to C N ps.length dsp ta)) σ H Q) : tMeth C m (spOf K ps.length dsp) [] E0 (liftO K to) (liftA K ta) σ H Q := by
  obtain ⟨B, pa, τ, F, ρ, θ, P, R, hl, h, q⟩ := toE h
  refine ⟨B, pa, τ, F, ρ, θ, _, R, hl, h, fun k ρ0 v H0 F0 h0 l0 R0 s0 => ?_⟩
  obtain ⟨a, ea, h0⟩ := gets_elim h0
  obtain ⟨hf, h0⟩ := h0
  obtain ⟨fs, ef⟩ := Option.isSome_iff_exists.mp hf
  have ev := recv_at R0 l0 s0 ea
  subst ev
  obtain ⟨dx, fvs, o1, o2⟩ := obj_at R0 ef
  refine ⟨a, dx, fvs, rfl, o1, o2.out m hm, ?_⟩
  refine ⟨B, pa, τ ++ [some (.ref a)], F0, ρ0, θ ++ [k.sl], _, by simpa only [List.append_assoc] using R0, l0, h0, fun ks ρ1 vs H1 F1 h1 hl1 hk R1 s1 => ?_⟩
  obtain ⟨as, e1, hn, h1⟩ := gets_elim h1
  rw [List.append_nil]
  have R1b : Rel K B pa (σ ++ (τ ++ [some (.ref a)]) ++ vs.map some) H1 F1 (ρ1.sl ++ (θ ++ [k.sl]) ++ ks.map Tk.sl) ρ1.pn := R1
  have R2 : Rel K B pa (σ ++ (τ ++ [some (.ref a)])) H1 F1 (ρ1.sl ++ (θ ++ [k.sl])) ρ1.pn := R1b.pops (by simp [hk])
  have hτ : (τ ++ [some (V.ref a)]).length = (θ ++ [k.sl]).length := by have := R2.len; simp at this ⊢; omega
  obtain ⟨T, t⟩ := R1b.st
  have t2 := Rel.popsT R2.len t
  have R3 : Rel K B pa (σ ++ τ) H1 F1 (ρ1.sl ++ θ) ρ1.pn := Rel.pop (o := some (.ref a)) (s := k.sl) (by simpa only [List.append_assoc] using R2)
  have t3 : StR K B pa (σ ++ τ) H1 F1 (ρ1.sl ++ θ) ρ1.pn T := Rel.popsT (os := [some (.ref a)]) (ss := [k.sl]) R3.len (by simpa only [List.append_assoc] using t2)
  have hA := args_all hl1 ks vs _ _ as hτ hk (by simpa only [List.append_assoc] using R1) (by simpa only [List.append_assoc] using t) s1 e1
  exact callS_fin R3 t3 (as := .ref a :: as) ⟨_, _, rfl, rfl, hA⟩ (by rw [List.length_cons]; exact hn) h1 fun d pn' v H' F' hp R4 => q (.val d) ⟨ρ1.sl, pn'⟩ v H' F' hp hl1 R4
theorem ce_meth {pl : Sem Bool} (F : FnD X.prog X.w X.K X.mg X.base k f fd ps dsp) (O : XO X k) (c : Cls X.K C) (hm : Meth X.K C m f) (hb : Binds X.K fd ps []) (ho : CO (S := Sto) X o to) (ha : CA (S := Sto) X (e :: es) ta) (hN : m ∉ N := by decide +kernel)
    (hst : starEach (e :: es) X.env = (false, eval e X.env) :: starEach es X.env := by rfl) (hpl : (backTo pos (starEach es X.env)).any (·.1) = false := by rfl)
    (ht : eval (.Call (.Attribute o m apos) (e :: es) [] pos) X.env = (do
      let ov ← eval o X.env
      standAt apos.atName
      let (f, first) ← holding [ov] (getMethod ov m pl)
      callWith pos f first (backTo pos (starEach (e :: es) X.env)) (backToKw pos (keywordEach [] X.env))) := by rfl) :
    CE (S := Sto) X (.Call (.Attribute o m apos) (e :: es) [] pos) (dMeth to C N ps.length dsp ta) :=
  pe_mono (pe_methG ho c hm F O.room O.gd hb pass0 ha hst hpl ht) fun _ _ _ h => meth_step hN h
theorem ce_meth0 {pl : Sem Bool} (F : FnD X.prog X.w X.K X.mg X.base k f fd ps dsp) (O : XO X k) (c : Cls X.K C) (hm : Meth X.K C m f) (hb : Binds X.K fd ps []) (ho : CO (S := Sto) X o to) (hN : m ∉ N := by decide +kernel)
    (ht : eval (.Call (.Attribute o m apos) [] [] pos) X.env = (do
      let ov ← eval o X.env
      standAt apos.atName
      let (f, first) ← holding [ov] (getMethod ov m pl)
      callWith pos f first (backTo pos (starEach [] X.env)) (backToKw pos (keywordEach [] X.env))) := by rfl) :
    CE (S := Sto) X (.Call (.Attribute o m apos) [] [] pos) (dMeth to C N ps.length dsp aNil) :=
  pe_mono (pe_methG0 ho c hm F O.room O.gd hb pass0 ht) fun σ H Q h => liftO_mono (meth_step hN h) fun x H1 ⟨a, dx, fs, e1, e2, e3, e4⟩ => ⟨a, dx, fs, e1, e2, e3, liftA_nil e4⟩
/-! C(..) -/
theorem make_step {K : Fg} {σ : L2.St} {H : Hp} {Q : VK} (nd : N.Nodup) (nz : N.length < 900) (h : liftO K (oMake C N ps.length dsp ta) σ H Q) : tMake C (spOf K ps.length dsp) [] E0 (liftA K ta) σ H Q := by
  obtain ⟨B, pa, τ, F, ρ, θ, P, R, hl, h, q⟩ := h
  refine ⟨B, pa, τ, F, ρ, θ, _, R, hl, h, fun ks ρ1 vs H1 F1 h1 hl1 hk R1 s1 => ?_⟩
  obtain ⟨as, e1, hn, h1⟩ := gets_elim h1
  intro x dx hx hdx ne
  rw [List.append_nil]
  obtain ⟨R1n, hox, hlx, hdx2⟩ := R1.newO (C := C) hx hdx ne nd nz
  have hτ : τ.length = θ.length := by have := (R1.pops (by simp [hk])).len; simp at this; omega
  obtain ⟨T, t⟩ := R1n.st
  have R3 : Rel K B pa (σ ++ τ) _ F1 (ρ1.sl ++ θ) _ := R1n.pops (by simp [hk])
  have t3 := Rel.popsT R3.len t
  have e1' : toArgs (⟨ρ1.sl, ρ1.pn.putO x ⟨C, N, List.replicate N.length .un⟩⟩ : En Sto) ks = some as := by
    rw [← e1]
    exact toArgs_sl ks
  have hA := args_all (ρ := ⟨ρ1.sl, ρ1.pn.putO x ⟨C, N, List.replicate N.length .un⟩⟩) hl1 ks vs τ θ as hτ hk (by simpa only [List.append_assoc] using R1n) (by simpa only [List.append_assoc] using t) s1 e1'
  exact callS_fin (ρ := ⟨ρ1.sl, ρ1.pn.putO x ⟨C, N, List.replicate N.length .un⟩⟩) R3 t3 (as := .ref x :: as) ⟨_, _, rfl, rfl, hA⟩ (by rw [List.length_cons]; exact hn) (h1 x hox hlx hdx2) fun d pn' v H' F' hp R4 => by
    obtain ⟨rfl, hp⟩ := hp
    obtain ⟨⟨v', e', hd⟩, _⟩ := Rel.last (s := .val .none) R4
    cases e'
    exact ⟨DR.non_.mp hd, q (.fb x) ⟨ρ1.sl, pn'⟩ (.ref x) H' F' hp hl1 (R4.pop.push (s := .ref x) rfl fun _ => nofun) (fun i e => by cases e)⟩
theorem co_make (F : FnD X.prog X.w X.K X.mg X.base k f fd ps dsp) (O : XO X (k + 1)) (M : Mk X.K C f) (hm : X.mg x = some (.ref C)) (hb : Binds X.K fd ps []) (ha : CA (S := Sto) X (e :: es) ta) (nd : N.Nodup := by decide +kernel) (nz : N.length < 900 := by decide) (hg : Gl X x := by rfl) (hdb : (x == ("__debug__" : Str)) = false := by decide)
    (he : starEach (e :: es) X.env = (false, eval e X.env) :: starEach es X.env := by rfl) (hpl : (backTo pos (starEach es X.env)).any (·.1) = false := by rfl) : CO (S := Sto) X (.Call (.Name x p) (e :: es) [] pos) (oMake C N ps.length dsp ta) :=
  pe_mono (pe_makeG M F O.room O.gd hg hm hb pass0 ha hdb he hpl) fun _ _ _ h => make_step nd nz h
theorem co_make0 (F : FnD X.prog X.w X.K X.mg X.base k f fd ps dsp) (O : XO X (k + 1)) (M : Mk X.K C f) (hm : X.mg x = some (.ref C)) (hb : Binds X.K fd ps []) (nd : N.Nodup := by decide +kernel) (nz : N.length < 900 := by decide) (hg : Gl X x := by rfl) (hdb : (x == ("__debug__" : Str)) = false := by decide) : CO (S := Sto) X (.Call (.Name x p) [] [] pos) (oMake C N ps.length dsp aNil) :=
  pe_mono (pe_makeG0 M F O.room O.gd hg hm hb pass0 hdb) fun _ _ _ h => by
    have := make_step nd nz h
    exact liftA_nil (Q := fun vs H1 => ∀ x dx, H1 x = none → H1 dx = none → dx ≠ x → spOf X.K ps.length dsp (.ref x :: (vs ++ [])) (upd (upd H1 dx (.own x)) x (.ins C dx [])) (fun v H2 => v = .non ∧ _) E0) this
end
end Dk
set_option Elab.async false
set_option linter.all false
set_option maxRecDepth 100000
set_option maxHeartbeats 2000000
/-! Do5: places of lists: of a field, of a local name with an operator; append to a field's list. -/
namespace Dk
open PySem PySem.Spec PyProof.Rows L2
def fldRef (ρ : En Sto) (i : Nat) (C : Addr) (N : List Str) (j : Nat) : Option Addr := (refS ρ.sl i).bind fun a => (fsO ρ.pn C N a).bind fun fs => match fs[j]? with
  | some (.ref b) => some b
  | _ => none
section
variable {K : Fg} {B : Bs} {pa : Option Addr} {σ : L2.St} {τ : List (Option V)} {H F : Hp} {ρ : En Sto} {θ : List Sl}
theorem fldRef_at (R : Rel K B pa (σ ++ τ) H F (ρ.sl ++ θ) ρ.pn) (hl : ρ.sl.length = σ.length) {i j : Nat} {C b : Addr} {N : List Str} {x : Str} (hx : N[j]? = some x) (h : fldRef ρ i C N j = some b) :
    ∃ a dx fvs, σ[i]? = some (some (.ref a)) ∧ H a = some (.ins C dx fvs) ∧ fvs.lookup x = some (.ref b) := by
  obtain ⟨a, e1, h⟩ := Option.bind_eq_some_iff.mp h
  obtain ⟨fs, e2, h⟩ := Option.bind_eq_some_iff.mp h
  split at h
  · rename_i b' e3
    cases h
    obtain ⟨dx, fvs, o1, o2⟩ := obj_at R e2
    exact ⟨a, dx, fvs, ref_at R hl e1, o1, o2.fld j _ x e3 hx⟩
  · cases h
theorem ls_at {zs : List (Option V)} {ws : List Sl} {pn : Sto} (R : Rel K B pa zs H F ws pn) {b : Addr} {xs : List D} (h : pn.ls b = some xs) : ∃ vs, H b = some (.lst vs) ∧ DRs K F xs vs := by
  obtain ⟨T, t, r⟩ := R.stoR
  exact r.ls b xs h
end
section
variable {X : Cx} {pos p1 p2 p3 apos : Pos} {C : Addr} {N : List Str} {x y : Str} {k : Nat} {te : DW Sto} {u : OW Sto} {e b a : Expr}
/-! self.x[k] = e -/
def dSetFIx (i : Nat) (C : Addr) (N : List Str) (j : Nat) (ti : OW Sto) (te : DW Sto) : DS Sto := fun E ρ => te ρ fun r ρ1 => gets (fldRef ρ1 i C N j) fun bb => ti ρ1 fun k ρ2 => gets ((k.rd ρ2).bind D.int?) fun z => gets (ρ2.pn.ls bb) fun xs => gets (ixN xs.length z) fun jj => E.nx ⟨ρ2.sl, ρ2.pn.putL bb (xs.set jj r.d)⟩
theorem cs_setFIx (i j : Nat) (c : Cls X.K C) (n : NoAttr X.K C x) (hb : CO (S := Sto) X b u) (he : CE (S := Sto) X e te) (hx : N[j]? = some x := by rfl) (hN : X.N[i]? = some y := by rfl) (hv : Vis X.env.scope y := by first | exact Or.inl rfl | exact Or.inr (Or.inl rfl) | exact Or.inr (Or.inr rfl)) (hd : (y == ("__debug__" : Str)) = false := by decide) (hcd : (y == ("__classdict__" : Str)) = false := by decide)
    (hbase : attributeBase (.Name y p1) x X.env (eval (.Name y p1) X.env) = eval (.Name y p1) X.env := by rfl)
    (hA : ∀ v, assign (.Subscript (.Attribute (.Name y p1) x p3) b p2) X.env v = (do
      let ov ← holding [v] (eval (.Attribute (.Name y p1) x p3) X.env)
      let iv ← holding [v, ov] (eval b X.env)
      standAt p2
      holding [v, ov, iv] (setItem ov iv v)
      release [v, ov, iv] []) := by intro _; rfl)
    (hs : swapsWithSole [.Subscript (.Attribute (.Name y p1) x p3) b p2] e pos.line X.env = pure false := by rfl) (hw : swappedStores [.Subscript (.Attribute (.Name y p1) x p3) b p2] e X.env = pure none := by rfl) (hq : (assignEach [.Subscript (.Attribute (.Name y p1) x p3) b p2] X.env).map (·.2) = [assign (.Subscript (.Attribute (.Name y p1) x p3) b p2) X.env] := by rfl) :
    CS (S := Sto) X (.Assign [.Subscript (.Attribute (.Name y p1) x p3) b p2] e pos) (dSetFIx i C N j u te) :=
  ps_mono (ps_asg he (pg_sub (pe_fld (pe_var hN hv hd hcd) hbase) hb set_list hA) hs hw hq) fun Z σ H ⟨B, pa, τ, F, ρ, θ, E, R, hl, h, q⟩ =>
    ofE ⟨B, pa, τ, F, ρ, θ, _, R, hl, h, fun r ρ1 v H1 F1 h1 l1 R1 => by
      obtain ⟨F2, _, R2⟩ := freezeLast R1
      obtain ⟨bb, eb, h1⟩ := gets_elim h1
      obtain ⟨a, dx, fvs, s0, o1, o2⟩ := fldRef_at R2.pop l1 hx eb
      refine ⟨.ref a, s0, a, C, dx, fvs, .ref bb, rfl, o1, c, n, o2, B, pa, τ ++ [some v], F2, ρ1, θ ++ [.val r.d], _, by simpa only [List.append_assoc] using R2, l1, h1, fun k ρ2 v2 H2 F3 h2 l2 R3 sk => ?_⟩
      obtain ⟨z, ez, h2⟩ := gets_elim h2
      obtain ⟨d0, f1, f2⟩ := Option.bind_eq_some_iff.mp ez
      have f3 := D.int?_some f2
      subst f3
      obtain ⟨xs, ex, h2⟩ := gets_elim h2
      obtain ⟨jj, ej, h2⟩ := gets_elim h2
      have R4 : Rel X.K B pa (σ ++ τ ++ [some v] ++ [some v2]) H2 F3 (ρ2.sl ++ θ ++ [.val r.d] ++ [k.sl]) ρ2.pn := by simpa only [List.append_assoc] using R3
      have hτ : τ.length = θ.length := by have := R4.pop.pop.len; simp at this; omega
      have R5 : Rel X.K B pa (σ ++ (τ ++ [some v] ++ [some v2])) H2 F3 (ρ2.sl ++ (θ ++ [.val r.d] ++ [k.sl])) ρ2.pn := by simpa only [List.append_assoc] using R3
      have rd := read_at R5 l2 (τ ++ [some v]).length (app_last _ _) (getN (by simp [hτ])) sk f1
      obtain ⟨⟨v', e', hd⟩, _⟩ := Rel.last (s := .val r.d) R4.pop
      cases e'
      obtain ⟨vs, q3, q4⟩ := ls_at R4.pop.pop ex
      refine ⟨bb, vs, z, jj, rfl, rd.int, q3, by rw [q4.len]; exact ej, ?_⟩
      have R6 := R4.pop.pop.putL (ys := xs.set jj r.d) (vs := vs.set jj v) ex (q4.set jj hd) (by have := R4.sz.l q3; simpa using this)
      exact q.nx σ ⟨ρ2.sl, ρ2.pn.putL bb (xs.set jj r.d)⟩ _ F3 h2 rfl l2 R6⟩
/-! self.x.append(e) -/
def dFAppend (i : Nat) (C : Addr) (N : List Str) (j : Nat) (t : OW Sto) : DW Sto := fun ρ P => gets (fldRef ρ i C N j) fun bb => (ρ.pn.ls bb).isSome = true ∧ t ρ fun k ρ1 => gets k.valD fun d => gets (ρ1.pn.ls bb) fun xs => xs.length < sizeLine ∧ P (.val .none) ⟨ρ1.sl, ρ1.pn.putL bb (xs ++ [d])⟩
theorem ce_fappend (i j : Nat) (c : Cls X.K C) (n : NoAttr X.K C x) (ha : CO (S := Sto) X a u) (hx : N[j]? = some x := by rfl) (hN : X.N[i]? = some y := by rfl) (hv : Vis X.env.scope y := by first | exact Or.inl rfl | exact Or.inr (Or.inl rfl) | exact Or.inr (Or.inr rfl)) (hd : (y == ("__debug__" : Str)) = false := by decide) (hcd : (y == ("__classdict__" : Str)) = false := by decide)
    (hbase : attributeBase (.Name y p1) x X.env (eval (.Name y p1) X.env) = eval (.Name y p1) X.env := by rfl)
    (hbase2 : attributeBase (.Attribute (.Name y p1) x p3) "append" X.env (eval (.Attribute (.Name y p1) x p3) X.env) = eval (.Attribute (.Name y p1) x p3) X.env := by rfl)
    (hfew : ((backTo pos (starEach [a] X.env)).all (fun x => !x.1) && (backToKw pos (keywordEach [] X.env)).all (fun x => x.1.isSome) && decide ([a].length + ([] : List Keyword).length + (if ([] : List Keyword).isEmpty then 0 else 1) < 30)) = true := by rfl)
    (hline : (apos.endLine == pos.line) = true := by rfl) (hs : starEach [a] X.env = (false, eval a X.env) :: starEach [] X.env := by rfl) (hplain : (backTo pos (starEach [] X.env)).any (·.1) = false := by rfl) :
    CE (S := Sto) X (.Call (.Attribute (.Attribute (.Name y p1) x p3) "append" apos) [a] [] pos) (dFAppend i C N j u) :=
  pe_mono (pe_bm PySem.F.plainAttrs_list PySem.F.slot_list_append PySem.F.type_list_append mt_append (pe_fld (pe_var hN hv hd hcd) hbase) (pa_cons ha pa_nil hs) hbase2 hfew hline hs hplain) fun σ H Q h => by
    obtain ⟨B, pa, τ, F, ρ, θ, P, R, hl, h, q⟩ := toE h
    obtain ⟨bb, eb, h⟩ := gets_elim h
    obtain ⟨h0, h⟩ := h
    obtain ⟨xs0, e0⟩ := Option.isSome_iff_exists.mp h0
    obtain ⟨a0, dx, fvs, s0, o1, o2⟩ := fldRef_at R hl hx eb
    obtain ⟨vs0, s1, _⟩ := ls_at R e0
    refine ⟨.ref a0, s0, a0, C, dx, fvs, .ref bb, rfl, o1, c, n, o2, .inl ⟨rfl, vs0, .inl (.inl s1)⟩, ?_⟩
    refine ⟨B, pa, τ, F, ρ, θ, _, R, hl, h, fun k ρ1 v H1 F1 h1 l1 R1 _ => ?_⟩
    have h1 : gets k.valD fun d => gets (ρ1.pn.ls bb) fun xs => xs.length < sizeLine ∧ P (.val .none) ⟨ρ1.sl, ρ1.pn.putL bb (xs ++ [d])⟩ := h1
    obtain ⟨d, ek, h2⟩ := gets_elim h1
    clear h1
    have ek := valD_some ek
    subst ek
    obtain ⟨xs, ex, h3⟩ := gets_elim h2
    obtain ⟨hz, h1⟩ := h3
    obtain ⟨⟨v', e', hd⟩, _⟩ := Rel.last (s := .val d) R1
    cases e'
    obtain ⟨vs, q3, q4⟩ := ls_at R1.pop ex
    refine ⟨bb, vs, v, rfl, rfl, q3, by rw [q4.len]; exact hz, ?_⟩
    have R2 := R1.pop.putL (ys := xs ++ [d]) (vs := vs ++ [v]) ex (q4.append (.cons hd .nil)) (by simp [q4.len]; omega)
    exact q (.val .none) ⟨ρ1.sl, ρ1.pn.putL bb (xs ++ [d])⟩ .non _ F1 h1 l1 (R2.pushVal (DR.non_.mpr rfl))
end
/-! xs[k] -= e, of a local list -/
section
variable {S : Type} [StK S] {X : Cx} {pos p1 p2 : Pos} {x : Str} {k : Nat} {te : DW S} {u : OW S} {e b : Expr} {op : Operator} {f : Int → Int → Int}
def rGetL : V → V → Hp → VK → Prop := fun o i H Q => ∃ p xs z v, o = .ref p ∧ i = .int z ∧ H p = some (.lst xs) ∧ 0 ≤ z ∧ xs[z.toNat]? = some v ∧ Q v H
theorem get_list : PGet X rGetL := by
  intro pins s σ H o i ov iv Q I ro ri h
  obtain ⟨p, xs, z, v, rfl, rfl, hp, h0, he, q⟩ := h
  cases ro
  obtain ⟨t, rfl⟩ := ri
  obtain ⟨its, r, pl, hz⟩ := I.list (.inl (.inl hp))
  obtain ⟨w, ew, rw'⟩ := r.get he
  have hl := r.length
  have hi := (List.getElem?_eq_some_iff.mp he).1
  have hn := line63
  exact wpAny_getItem_list pl.isList h0 (by omega) (by simpa using ew) ⟨v, H, I, rw', q⟩
def dAugIx (i : Nat) (f : Int → Int → Int) (ti : OW S) (te : DW S) : DS S := fun E ρ => (own? ρ.sl i).isSome = true ∧ ti ρ fun k ρ1 => gets ((k.rd ρ1).bind D.int?) fun z => gets (own? ρ1.sl i) fun xs => 0 ≤ z ∧ gets ((xs[z.toNat]?).bind D.int?) fun old => te ρ1 fun r ρ2 => gets (D.int? r.d) fun m => gets (own? ρ2.sl i) fun ys => z < ys.length ∧ E.nx { ρ2 with sl := ρ2.sl.set i (.own (ys.set z.toNat (.int (f old m)))) }
theorem cs_augIx (i : Nat) (hp : PIp X op (ipI f)) (hb : CO (S := S) X b u) (he : CE (S := S) X e te) (hN : X.N[i]? = some x := by rfl) (hv : Vis X.env.scope x := by first | exact Or.inl rfl | exact Or.inr (Or.inl rfl) | exact Or.inr (Or.inr rfl)) (hd : (x == ("__debug__" : Str)) = false := by decide) (hcd : (x == ("__classdict__" : Str)) = false := by decide)
    (ha : ∀ ov iv new, augStore b ov iv new = (do holding [new, ov, iv] (setItem ov iv new); release [new, ov, iv] []; pure .next) := by intros; rfl) :
    CS (S := S) X (.AugAssign (.Subscript (.Name x p1) b p2) op e pos) (dAugIx i f u te) :=
  ps_mono (ps_augS (pe_var hN hv hd hcd) hb get_list he hp set_list ha) fun Z σ H ⟨B, pa, τ, F, ρ, θ, E, R, hl, h, q⟩ => by
    obtain ⟨h0, h⟩ := h
    obtain ⟨xs0, e0⟩ := Option.isSome_iff_exists.mp h0
    obtain ⟨a0, vs0, s0, _⟩ := own_at R hl e0
    refine ⟨.ref a0, s0, B, pa, τ, F, ρ, θ, _, R, hl, h, fun k ρ1 v1 H1 F1 h1 l1 R1 sk => ?_⟩
    obtain ⟨z, ez, h1⟩ := gets_elim h1
    obtain ⟨d0, f1, f2⟩ := Option.bind_eq_some_iff.mp ez
    have f3 := D.int?_some f2
    subst f3
    obtain ⟨xs, ex, h1⟩ := gets_elim h1
    obtain ⟨hz0, h1⟩ := h1
    obtain ⟨old, eo, h1⟩ := gets_elim h1
    obtain ⟨d1, g1, g2⟩ := Option.bind_eq_some_iff.mp eo
    have g3 := D.int?_some g2
    subst g3
    have hτ : τ.length = θ.length := by have := R1.pop.len; simp at this; omega
    have R1b : Rel X.K B pa (σ ++ (τ ++ [some v1])) H1 F1 (ρ1.sl ++ (θ ++ [k.sl])) ρ1.pn := by simpa only [List.append_assoc] using R1
    have rd := read_at R1b l1 τ.length (app_last _ _) (getN hτ.symm) sk f1
    obtain ⟨a1, vs, q0, q1, q2, q3, q4, q5⟩ := own_at R1.pop l1 ex
    rw [s0] at q0
    cases q0
    obtain ⟨w, k1, k2⟩ := q4.get g1
    refine ⟨a0, vs, z, w, rfl, rd.int, q3, hz0, k1, ?_⟩
    rw [DR.int_.mp k2]
    refine ofE ⟨B, pa, τ, F1, ρ1, θ, _, R1.pop, l1, h1, fun r ρ2 v2 H2 F2 h2 l2 R2 => ?_⟩
    obtain ⟨m, em, h2⟩ := gets_elim h2
    have em := D.int?_some em
    obtain ⟨ys, ey, h2⟩ := gets_elim h2
    obtain ⟨hlt, h2⟩ := h2
    obtain ⟨F3, _, R3⟩ := freezeLast R2
    obtain ⟨⟨v', e', hd2⟩, _⟩ := Rel.last (s := .val r.d) R3
    cases e'
    rw [em] at hd2
    have ev := DR.int_.mp hd2
    subst ev
    obtain ⟨a2, us, w0, w1, w2, w3, w4, w5⟩ := own_at R3.pop l2 ey
    rw [s0] at w0
    cases w0
    refine ⟨old, m, rfl, rfl, a0, us, z, z.toNat, rfl, rd.int, w3, ?_, ?_⟩
    · unfold ixN
      rw [if_pos hz0, if_pos (by rw [w4.len]; exact hlt)]
    · have R6 := R3.pop.writeS (ys := ys.set z.toNat (.int (f old m))) (vs := us.set z.toNat (.int (f old m))) w2 w1 (by omega) (w4.set _ (DR.int_.mpr rfl)) (by have := R3.sz.l w3; simpa using this)
      exact q.nx σ { ρ2 with sl := ρ2.sl.set i (.own (ys.set z.toNat (.int (f old m)))) } _ F3 h2 rfl (by simpa using l2) R6
end
end Dk
set_option Elab.async false
set_option linter.all false
set_option maxRecDepth 100000
set_option maxHeartbeats 2000000
/-! Do6: min of a list of alike data; a def that knows the pen alone, walked with a store; readings by simp. -/
namespace Dk
open PySem PySem.Spec PyProof.Rows L2
open Classical in
noncomputable def minA : List D → Option Rs
  | [.list (x :: xs)] => if PySem.W.AlikeAll (x :: xs) ∧ PyData.depthAll (x :: xs) ≤ 60 then some (.val (PySem.W.minD x xs)) else none
  | _ => none
open Classical in
@[simp↓] theorem g_minA {x : D} {xs : List D} {k : Rs → Prop} : gets (minA [.list (x :: xs)]) k = ((PySem.W.AlikeAll (x :: xs) ∧ PyData.depthAll (x :: xs) ≤ 60) ∧ k (.val (PySem.W.minD x xs))) := by unfold minA; exact g_ite
open Classical in
theorem cd_minA {X : Cx} {k : Nat} (hx : XO X k) : CallD X (.builtin "min") minA := by
  intro pins s σ H xs us Q I rv ⟨F, ds, r, ⟨hz0, hF⟩, hd, hg, q⟩
  unfold minA at hg
  split at hg
  · obtain ⟨⟨c1, c2⟩, rfl⟩ := some_ite hg
    rename_i y ys
    obtain ⟨v, rfl, h⟩ := hd.one
    obtain ⟨a, ws, rfl, ha, ra⟩ := h.list hF
    obtain ⟨its, rvs, hl, hz⟩ := I.list (.inl (.inl ha))
    rw [Vals.ref1 rv]
    obtain ⟨as, hr, _⟩ := DRs.reads I hF (y :: ys) ws its ra rvs
    have hun := hx.room.un
    have hh : X.A.handled = none := I.ok.hd hx.calm
    have hr2 : ReadsAll s.heap its.toArray.toList (y :: ys) as := hr
    have hn : its.toArray.size = ys.length + 1 := by
      have := ra.len
      have := rvs.length
      simp at *
      omega
    refine PySem.call_min_walkH (PySem.W.iter_listW (A := X.A.in1) hh hl.isList fun s₂ e W st hfp hw hk => ?_)
    refine ⟨_, _, _, _, _, _, _, s.heap, _, rfl, W, st, hfp, by omega, hw, hk, PySem.W.cmpIn_lt (A := X.A.in1) hr2 c1 (by show X.A.units + 1 + _ < _; omega), fun v s' hP m => ?_⟩
    obtain ⟨h', tk, rfl, hk'⟩ := PySem.W.moved_old e rfl m
    have e1 : its.toArray.size - 1 = ys.length := by omega
    have e2 := PySem.W.argBest_fold PySem.W.dataLt PyData.none y ys ys.length (Nat.le_refl _)
    rw [List.take_length] at e2
    rw [e1] at hP
    have hP : its.toArray[argBest (fun i j => PySem.W.dataLt ((y :: ys).getD i .none) ((y :: ys).getD j .none)) ys.length]? = some v := hP
    generalize argBest (fun i j => PySem.W.dataLt ((y :: ys).getD i .none) ((y :: ys).getD j .none)) ys.length = b at e2 hP
    obtain ⟨b1, b2⟩ := e2
    have hb : (y :: ys)[b]? = some (PySem.W.minD y ys) := by
      rw [List.getD_eq_getElem?_getD, List.getElem?_eq_getElem (by simp; omega)] at b2
      rw [List.getElem?_eq_getElem (by simp; omega)]
      simpa [PySem.W.minD] using b2
    obtain ⟨w, w1, w2⟩ := ra.get hb
    obtain ⟨u, u1, u2⟩ := rvs.get w1
    have eu : u = v := by
      rw [List.getElem?_toArray, u1] at hP
      exact Option.some.inj hP
    subst eu
    exact ⟨w, H, I.kept hk', u2, q.1 w w2⟩
  · cases hg
/-! ### a def that knows the pen alone, its body walked with a store -/
theorem FnD.mkS {P : Program} {w : World} {K : Fg} {mg : Str → Option Value} {base : Heap} {x : Str} {st : Stmt} {f : Addr} {fd : FuncData} {N ps : List Str} {k : Nat} {dsp : DSp} {t : DS Sto} (Fu : Dfn K mg x st f fd) (Sc : FnScope N ps (defScope st))
    (hbody : ∀ (cdv : Value) (A : Around) (outer : List Env) (s : Shared) (H : Hp) (E : XK), XO (cx0 P w K mg base N x (defScope st) f cdv A outer s H E) k → CSs (S := Sto) (cx0 P w K mg base N x (defScope st) f cdv A outer s H E) (defBody st) t)
    (hlaw : ∀ as pn Q, as.length = ps.length → dsp as pn Q → t { nx := fun ρ => Q .none ρ.pn.pen, rt := fun d s => Q d s.pen } ⟨startD N.length as, Sto.only pn⟩) : FnD P w K mg base (k + 1) f fd ps dsp := by
  obtain ⟨oc, od, dV, kV, doc, pm, an, cdv, ct, osl, rfl, lk, hcd, hD, _⟩ := Fu.F.ex
  refine fng_of lk hcd Sc (fun vs H Q E ⟨F, pa, T, as, pn, P, _, _, h, _, _, hl, _⟩ => by rw [h.len, hl]) fun A outer s H vs Q E hr hgd hsp => ?_
  obtain ⟨F, pa, T, as, pn, PQ, hz, hF, ha, ⟨hp, rfl⟩, hpl', hl, hd, q⟩ := hsp
  have X0 : XO (cx0 P w K mg base N x (defScope st) f cdv A outer s H E) k := ⟨rfl, hr, hgd, Sc.nd, PassesOwn.never⟩
  have r0 : StoR K pa H F (Sto.only pn) (fun b => pa = some b) := ⟨hp, fun a o e => (nomatch e), fun b xs e => (nomatch e), fun b c e => (nomatch e), fun b _ => ⟨rfl, rfl, rfl⟩, fun b => ⟨.inl, fun z => z.elim id fun z => z.elim (fun y => absurd rfl y) fun z => z.elim (fun y => absurd rfl y) fun y => absurd rfl y⟩⟩
  have fin : ∀ (zs : List (Option V)) (ws : List Sl) (d : D) (s' : Sto) (v : V) (H' F' : Hp), PQ d s'.pen → Rel K ⟨H, F, fun b => pa = some b⟩ pa (zs ++ [some v]) H' F' (ws ++ [.val d]) s' → Q v H' := fun zs ws d s' v H' F' h R => by
    obtain ⟨⟨v', e', hd⟩, _⟩ := Rel.last (s := .val d) R
    cases e'
    obtain ⟨T', t, r⟩ := R.stoR
    exact q d s'.pen v H' F' (fun b => pa = some b) h R.sz R.f0 R.fh R.fr R.base ⟨r.pen, rfl⟩ (fun b hb => ⟨.inl hb, R.pal b hb, t.fn b ((r.t b).mpr (.inl hb))⟩) R.pal hd
  refine ⟨_, (hbody cdv A outer s H E X0).nox, ⟨H, F, fun b => pa = some b⟩, pa, [], F, ⟨startD N.length as, Sto.only pn⟩, [], _, by
    have h := rel_start (S := Sto) (N := N) (pn := Sto.only pn) hz hF ha r0 hpl'
    rw [List.append_nil, List.append_nil]
    exact h, by
      have hpl : ps.length ≤ N.length := by have := congrArg List.length Sc.pre; rw [List.length_take] at this; omega
      simp [L2.start, startD, ha.len], hlaw as pn PQ hl hd, ?_⟩
  exact ⟨fun σ ρ H' F' h _ _ R => fin _ _ .none _ .non H' F' h (R.pushVal (DR.non_.mpr rfl)), fun _ _ _ _ h => h.elim, fun _ _ _ _ h => h.elim, fun zs ws d pn v H' F' h R => fin zs ws d pn v H' F' h R⟩
/-! ### a method -/
structure DfnM (K : Fg) (x q : Str) (st : Stmt) (f : Addr) (fd : FuncData) : Prop where
  F : FunD K x q (defArgs st) (defBody st) (defScope st) [] [] f fd
theorem FnD.mkM {S : Type} [StK S] {P : Program} {w : World} {K : Fg} {mg : Str → Option Value} {base : Heap} {x q : Str} {st : Stmt} {f : Addr} {fd : FuncData} {N ps : List Str} {k : Nat} {dsp : DSp S} {t : DS S} (Fu : DfnM K x q st f fd) (Sc : FnScope N ps (defScope st))
    (hbody : ∀ (cdv : Value) (A : Around) (outer : List Env) (s : Shared) (H : Hp) (E : XK), XO (cx0 P w K mg base N q (defScope st) f cdv A outer s H E) k → CSs (S := S) (cx0 P w K mg base N q (defScope st) f cdv A outer s H E) (defBody st) t)
    (hlaw : ∀ as pn Q, as.length = ps.length → dsp as pn Q → t { nx := fun ρ => Q .none ρ.pn, rt := Q } ⟨startD N.length as, pn⟩) : FnD P w K mg base (k + 1) f fd ps dsp := by
  obtain ⟨oc, od, dV, kV, doc, pm, an, cdv, ct, osl, rfl, lk, hcd, hD, _⟩ := Fu.F.ex
  refine fng_of lk hcd Sc (fun vs H Q E ⟨F, pa, T, as, pn, P, _, _, h, _, _, hl, _⟩ => by rw [h.len, hl]) fun A outer s H vs Q E hr hgd hsp => ?_
  obtain ⟨F, pa, T, as, pn, PQ, hz, hF, ha, hp, hpl', hl, hd, q'⟩ := hsp
  have X0 : XO (cx0 P w K mg base N q (defScope st) f cdv A outer s H E) k := ⟨rfl, hr, hgd, Sc.nd, PassesOwn.never⟩
  refine ⟨_, (hbody cdv A outer s H E X0).nox, ⟨H, F, T⟩, pa, [], F, ⟨startD N.length as, pn⟩, [], _, by
    have h := rel_start (N := N) hz hF ha hp hpl'
    rw [List.append_nil, List.append_nil]
    exact h, by
      have hpl : ps.length ≤ N.length := by have := congrArg List.length Sc.pre; rw [List.length_take] at this; omega
      simp [L2.start, startD, ha.len], hlaw as pn PQ hl hd, ?_⟩
  exact ⟨fun σ ρ H' F' h _ _ R => rel_end q' h (R.pushVal (d := .none) (v := .non) (DR.non_.mpr rfl)), fun _ _ _ _ h => h.elim, fun _ _ _ _ h => h.elim, fun zs ws d pn v H' F' h R => rel_end q' h R⟩
/-! ### readings by simp -/
section
variable {E : DE Sto} {s0 : Sl} {l0 : List Sl} {pn : Sto} {te : DW Sto} {ta to : OW Sto} {aa : AW Sto} {i j n : Nat} {C : Addr} {N : List Str} {P : Rs → En Sto → Prop} {Po : Tk → En Sto → Prop} {dsp : DSp Sto} {dp : DSp} {a b : Addr} {xs : List D} {o : Ob} {fs : List Sl}
@[simp↓] theorem z_oAttr : oAttr i C N j ⟨s0 :: l0, pn⟩ Po = gets (refS (s0 :: l0) i) fun a => gets (fsO pn C N a) fun fs => match fs[j]? with
  | some (.val d) => Po (.tmp (.val d)) ⟨s0 :: l0, pn⟩
  | some (.ref b) => Po (.fb b) ⟨s0 :: l0, pn⟩
  | _ => False := rfl
@[simp↓] theorem z_dAttr : dAttr i C N j ⟨s0 :: l0, pn⟩ P = gets (refS (s0 :: l0) i) fun a => gets (fsO pn C N a) fun fs => match fs[j]? with
  | some (.val d) => P (.val d) ⟨s0 :: l0, pn⟩
  | _ => False := rfl
@[simp↓] theorem z_dSetF : dSetF i C N j te E ⟨s0 :: l0, pn⟩ = te ⟨s0 :: l0, pn⟩ fun r ρ1 => gets (refS ρ1.sl i) fun a => gets (fsO ρ1.pn C N a) fun fs => match r with
  | .val d => E.nx ⟨ρ1.sl, ρ1.pn.putO a ⟨C, N, fs.set j (.val d)⟩⟩
  | .own xs => ∀ b, b ≠ a → ρ1.pn.ls b = none → ρ1.pn.ob b = none → ρ1.pn.dc b = none → E.nx ⟨ρ1.sl, (ρ1.pn.putL b xs).putO a ⟨C, N, fs.set j (.ref b)⟩⟩ := rfl
@[simp↓] theorem z_dSetFIx : dSetFIx i C N j ta te E ⟨s0 :: l0, pn⟩ = te ⟨s0 :: l0, pn⟩ fun r ρ1 => gets (fldRef ρ1 i C N j) fun bb => ta ρ1 fun k ρ2 => gets ((k.rd ρ2).bind D.int?) fun z => gets (ρ2.pn.ls bb) fun xs => gets (ixN xs.length z) fun jj => E.nx ⟨ρ2.sl, ρ2.pn.putL bb (xs.set jj r.d)⟩ := rfl
@[simp↓] theorem z_dFAppend : dFAppend i C N j ta ⟨s0 :: l0, pn⟩ P = gets (fldRef ⟨s0 :: l0, pn⟩ i C N j) fun bb => (pn.ls bb).isSome = true ∧ ta ⟨s0 :: l0, pn⟩ fun k ρ1 => gets k.valD fun d => gets (ρ1.pn.ls bb) fun xs => xs.length < sizeLine ∧ P (.val .none) ⟨ρ1.sl, ρ1.pn.putL bb (xs ++ [d])⟩ := rfl
@[simp↓] theorem z_dMeth : dMeth to C N n dsp aa ⟨s0 :: l0, pn⟩ P = to ⟨s0 :: l0, pn⟩ fun k ρ0 => gets (recvA ρ0.sl k) fun a => (fsO ρ0.pn C N a).isSome = true ∧ aa ρ0 fun ks ρ1 => gets (toArgs ρ1 ks) fun as => as.length + 1 = n ∧ dsp (.ref a :: as) ρ1.pn fun d pn' => P (.val d) ⟨ρ1.sl, pn'⟩ := rfl
@[simp↓] theorem z_oMake : oMake C N n dsp aa ⟨s0 :: l0, pn⟩ Po = aa ⟨s0 :: l0, pn⟩ fun ks ρ1 => gets (toArgs ρ1 ks) fun as => as.length + 1 = n ∧
  ∀ a, ρ1.pn.ob a = none → ρ1.pn.ls a = none → ρ1.pn.dc a = none → dsp (.ref a :: as) (ρ1.pn.putO a ⟨C, N, List.replicate N.length .un⟩) fun d pn' => d = .none ∧ Po (.fb a) ⟨ρ1.sl, pn'⟩ := rfl
@[simp↓] theorem z_dCallP : dCallP n dp aa ⟨s0 :: l0, pn⟩ P = aa ⟨s0 :: l0, pn⟩ fun ks ρ1 => gets (toArgsP ρ1 ks) fun as => as.length = n ∧ dp as ρ1.pn.pen fun d pn' => P (.val d) ⟨ρ1.sl, { ρ1.pn with pen := pn' }⟩ := rfl
@[simp↓] theorem z_dForL {it : IW Sto} {g : GW Sto} {t : DS Sto} : dForL it g t E ⟨s0 :: l0, pn⟩ = it ⟨s0 :: l0, pn⟩ fun c ρ1 => (c.ks.any Tk.slot1? = false) ∧ gets (c.items ρ1) fun items => items.length ≤ sizeLine → forL c items g t E items ρ1 := rfl
@[simp↓] theorem g_refS0 {k : Addr → Prop} : gets (refS (.ref a :: l0) 0) k = k a := rfl
@[simp↓] theorem g_refSS {k : Addr → Prop} : gets (refS (s0 :: l0) (n + 1)) k = gets (refS l0 n) k := rfl
@[simp↓] theorem g_recvF {l : List Sl} {k : Addr → Prop} : gets (recvA l (.fb a)) k = k a := rfl
@[simp↓] theorem g_recvS {l : List Sl} {k : Addr → Prop} : gets (recvA l (.slot i)) k = gets (refS l i) k := rfl
@[simp↓] theorem g_fb {sl : List Sl} {k : D → Prop} : gets (Tk.rd (⟨sl, pn⟩ : En Sto) (.fb b)) k = gets (pn.ls b) fun xs => k (.list xs) := by
  show gets ((pn.ls b).map _) k = _
  exact g_map
@[simp↓] theorem g_taF {sl : List Sl} {k : Arg → Prop} : gets (toArg (⟨sl, pn⟩ : En Sto) (.fb b)) k = k (.ref b) := rfl
@[simp↓] theorem g_asR {k : Arg → Prop} : gets (argS (.ref a :: l0) 0) k = k (.ref a) := rfl
@[simp↓] theorem g_fldRef {sl : List Sl} {k : Addr → Prop} : gets (fldRef ⟨sl, pn⟩ i C N j) k = gets (refS sl i) fun a => gets (fsO pn C N a) fun fs => match fs[j]? with
  | some (.ref b) => k b
  | _ => False := by
  unfold fldRef
  rw [g_bind]
  congr 1
  funext a
  rw [g_bind]
  congr 1
  funext fs
  cases h : fs[j]? with
  | none => rfl
  | some s => cases s <;> rfl
@[simp↓] theorem g_tpP0 {ρ : En Sto} {k : List Arg → Prop} : gets (toArgsP ρ []) k = k [] := rfl
@[simp↓] theorem g_tpP {ρ : En Sto} {kk : Tk} {ks : List Tk} {k : List Arg → Prop} : gets (toArgsP ρ (kk :: ks)) k = gets (toArgP ρ kk) fun d => gets (toArgsP ρ ks) fun ds => k (d :: ds) := by
  show gets ((toArgP ρ kk).bind _) k = _
  rw [g_bind]; congr 1; funext d; exact g_bind
@[simp↓] theorem g_tpT {ρ : En Sto} {d : D} {k : Arg → Prop} : gets (toArgP ρ (.tmp (.val d))) k = k (.val d) := rfl
@[simp↓] theorem g_tpF {sl : List Sl} {k : Arg → Prop} : gets (toArgP (⟨sl, pn⟩ : En Sto) (.fb b)) k = gets (pn.ls b) fun xs => k (.bor xs) := by
  show gets ((pn.ls b).map _) k = _
  exact g_map
/-! the store -/
theorem putO_fs : fsO (pn.putO a ⟨C, N, fs⟩) C N a = some fs := by
  refine fsO_of ?_
  show (if a = a then _ else _) = _
  rw [if_pos rfl]
@[simp↓] theorem g_putO {k : List Sl → Prop} : gets (fsO (pn.putO a ⟨C, N, fs⟩) C N a) k = k fs := by rw [putO_fs]; rfl
@[simp↓] theorem i_putO : (fsO (pn.putO a ⟨C, N, fs⟩) C N a).isSome = True := by rw [putO_fs]; simp
@[simp↓] theorem g_putOL {a' : Addr} {k : List Sl → Prop} : gets (fsO (pn.putL b xs) C N a') k = gets (fsO pn C N a') k := rfl
@[simp] theorem ls_putO : (pn.putO a o).ls b = pn.ls b := rfl
@[simp] theorem ob_putL {a' : Addr} : (pn.putL b xs).ob a' = pn.ob a' := rfl
@[simp] theorem pen_putO : (pn.putO a o).pen = pn.pen := rfl
@[simp] theorem pen_putL : (pn.putL b xs).pen = pn.pen := rfl
theorem ls_same : (pn.putL b xs).ls b = some xs := if_pos rfl
theorem ls_ne {c : Addr} (h : c ≠ b) : (pn.putL b xs).ls c = pn.ls c := if_neg h
theorem ob_same : (pn.putO a o).ob a = some o := if_pos rfl
theorem ob_ne {c : Addr} (h : c ≠ a) : (pn.putO a o).ob c = pn.ob c := if_neg h
@[simp↓] theorem g_lsSame {k : List D → Prop} : gets ((pn.putL b xs).ls b) k = k xs := by rw [ls_same]; rfl
end
section
variable {S : Type} [StK S] {E : DE S} {s0 : Sl} {l0 : List Sl} {pn : S} {te : DW S} {ti : OW S} {i : Nat} {f : Int → Int → Int}
@[simp↓] theorem z_dAugIx : dAugIx i f ti te E ⟨s0 :: l0, pn⟩ = ((own? (s0 :: l0) i).isSome = true ∧ ti ⟨s0 :: l0, pn⟩ fun k ρ1 => gets ((k.rd ρ1).bind D.int?) fun z => gets (own? ρ1.sl i) fun xs => 0 ≤ z ∧ gets ((xs[z.toNat]?).bind D.int?) fun old => te ρ1 fun r ρ2 => gets (D.int? r.d) fun m => gets (own? ρ2.sl i) fun ys => z < ys.length ∧ E.nx ⟨ρ2.sl.set i (.own (ys.set z.toNat (.int (f old m)))), ρ2.pn⟩) := rfl
end
end Dk
set_option Elab.async false
set_option linter.all false
set_option maxRecDepth 100000
set_option maxHeartbeats 2000000
/-! Do7: loops by invariants, with any store. -/
namespace Dk
open PySem PySem.Spec PyProof.Rows L2
variable {S : Type} [StK S]
theorem forL_inv {c : Sc} {g : (GW S)} {b : (DS S)} {E : (DE S)} {items : List D} (J : Nat → (En S) → Prop)
    (its : ∀ i ρ, J i ρ → c.items ρ = some items)
    (step : ∀ (i : Nat) (d : D) (ρ : (En S)), items[i]? = some d → J i ρ → ∀ N : (En S) → Prop, (∀ ρ', J (i + 1) ρ' → N ρ') → g d ρ fun ρ1 => b { nx := N, rt := E.rt, bk := E.nx, ct := N } ρ1)
    (fin : ∀ ρ, J items.length ρ → E.nx ρ) {ρ : (En S)} (h0 : J 0 ρ) : forL c items g b E items ρ := by
  have key : ∀ (n i : Nat) (ρ : (En S)), i + n = items.length → J i ρ → forL c items g b E (items.drop i) ρ := by
    intro n
    induction n with
    | zero =>
      intro i ρ e h
      rw [List.drop_eq_nil_of_le (by omega)]
      exact ⟨its i ρ h, fin ρ (by rw [← show i = items.length by omega]; exact h)⟩
    | succ n ih =>
      intro i ρ e h
      have hi : i < items.length := by omega
      rw [List.drop_eq_getElem_cons hi]
      exact ⟨its i ρ h, step i items[i] ρ (List.getElem?_eq_getElem hi) h _ fun ρ' h' => ih (i + 1) ρ' (by omega) h'⟩
  exact key items.length 0 ρ (by omega) h0
theorem while_invS {c : BW S} {b : DS S} {E : DE S} (J : Nat → En S → Prop)
    (step : ∀ (i : Nat) (ρ : En S), J i ρ → ∀ N : En S → Prop, (∀ ρ', (∃ j, i = j + 1 ∧ J j ρ') → N ρ') → c ρ fun t ρ1 => if t = true then b { nx := N, rt := E.rt, bk := E.nx, ct := N } ρ1 else E.nx ρ1)
    {n : Nat} {ρ : En S} (h : J n ρ) : dWhile c b E ρ := by
  refine ⟨n + 1, ?_⟩
  have key : ∀ (i : Nat) (ρ : En S), J i ρ → whileW c b E (i + 1) ρ := by
    intro i
    induction i with
    | zero => exact fun ρ h => step 0 ρ h (whileW c b E 0) fun ρ' ⟨j, e, _⟩ => by omega
    | succ i ih => exact fun ρ h => step (i + 1) ρ h (whileW c b E (i + 1)) fun ρ' ⟨j, e, hj⟩ => ih ρ' (by rw [show i = j by omega]; exact hj)
  exact key n ρ h
def dFrz (t : DW S) : DW S := fun ρ P => t ρ fun r ρ' => P (.val r.d) ρ'
theorem ce_frz {X : Cx} {e : Expr} {t : DW S} (h : CE (S := S) X e t) : CE X e (dFrz t) := ce_cv h
@[simp↓] theorem z_dFrz {t : DW S} {s0 : Sl} {l0 : List Sl} {pn : S} {P : Rs → En S → Prop} : dFrz t ⟨s0 :: l0, pn⟩ P = t ⟨s0 :: l0, pn⟩ fun r ρ' => P (.val r.d) ρ' := rfl
@[simp] theorem v_slR {a : Addr} : Arg.sl (.ref a) = .ref a := rfl
@[simp] theorem v_slot1T {r : Rs} : Tk.slot1? (.tmp r) = false := rfl
@[simp] theorem v_slot1F {a : Addr} : Tk.slot1? (.fb a) = false := rfl
@[simp↓] theorem g_min2 {i j : Int} {k : Rs → Prop} : gets (minD [.int i, .int j]) k = k (.val (.int (min i j))) := rfl
@[simp↓] theorem g_absI {i : Int} {k : Rs → Prop} : gets (absD [.int i]) k = k (.val (.int (if i < 0 then -i else i))) := rfl
/-! ### a function's values as a list -/
def Li (f : Nat → Int) (n : Nat) : List D := (List.range n).map fun j => .int (f j)
@[simp] theorem Li_len {f : Nat → Int} {n : Nat} : (Li f n).length = n := by simp [Li]
theorem Li_get {f : Nat → Int} {n j : Nat} (h : j < n) : (Li f n)[j]? = some (.int (f j)) := by
  unfold Li
  rw [List.getElem?_map, List.getElem?_range h]
  rfl
theorem Li_atI {f : Nat → Int} {n j : Nat} (h : j < n) : atI (Li f n) (j : Int) = some (.int (f j)) := by
  rw [Dk.atI_nat]
  exact Li_get h
theorem Li_eq {xs : List D} {f : Nat → Int} {n : Nat} (hl : xs.length = n) (h : ∀ j, j < n → xs[j]? = some (.int (f j))) : xs = Li f n := by
  apply List.ext_getElem?
  intro j
  by_cases hj : j < n
  · rw [h j hj, Li_get hj]
  · rw [List.getElem?_eq_none (by omega), List.getElem?_eq_none (by rw [Li_len]; omega)]
theorem Li_congr {f g : Nat → Int} {n : Nat} (h : ∀ j, j < n → f j = g j) : Li f n = Li g n := Li_eq (by simp) fun j hj => by rw [Li_get hj, h j hj]
theorem Li_set {f : Nat → Int} {n p : Nat} {v : Int} : (Li f n).set p (.int v) = Li (fun j => if j = p then v else f j) n := Li_eq (by simp) fun j hj => by
  rw [List.getElem?_set]
  by_cases e : p = j
  · subst e
    simp [hj]
  · rw [if_neg e, Li_get hj, if_neg fun z => e z.symm]
theorem Li_app {f g : Nat → Int} {n m : Nat} : Li f n ++ Li g m = Li (fun j => if j < n then f j else g (j - n)) (n + m) := Li_eq (by simp) fun j hj => by
  by_cases e : j < n
  · rw [List.getElem?_append_left (by simpa using e), Li_get e, if_pos e]
  · rw [List.getElem?_append_right (by simpa using e), Li_len, Li_get (by omega), if_neg e]
theorem Li_rep {x : Int} {n : Nat} : List.replicate n (PyData.int x) = Li (fun _ => x) n := Li_eq (by simp) fun j hj => by rw [List.getElem?_replicate, if_pos hj]
end Dk
set_option Elab.async false
set_option linter.all false
set_option maxRecDepth 100000
set_option maxHeartbeats 2000000
/-! Dz7: comprehensions with two clauses. -/
namespace Dk
open PySem PySem.Spec PyProof.Rows L2
variable {S : Type} [StK S]
/-- the outer loop; it1 the second source, its loop is lcW -/
def lcO (c : Sc) (items : List D) (g : GW S) (tt : BW S) (it1 : IW S) (g1 : GW S) (tt1 : BW S) (te : OW S) (vs vs1 : List Nat) (Q : List D → En S → Prop) : List D → List D → En S → Prop
  | [], acc, ρ => c.items ρ = some items ∧ Q acc ρ
  | d :: r, acc, ρ => c.items ρ = some items ∧ g d ρ fun ρ1 => tt ρ1 fun b ρ2 => if b = true then
      it1 ρ2 fun c1 ρ3 => gets (c1.items ρ3) fun items1 => acc.length + items1.length ≤ sizeLine ∧
        lcW c1 items1 g1 tt1 te vs1 (fun acc' ρ4 => lcO c items g tt it1 g1 tt1 te vs vs1 Q r acc' { ρ4 with sl := wipeD ρ4.sl vs }) items1 acc { ρ3 with sl := wipeD ρ3.sl vs1 }
      else lcO c items g tt it1 g1 tt1 te vs vs1 Q r acc { ρ2 with sl := wipeD ρ2.sl vs }
def dLc2 (it : IW S) (g : GW S) (tt : BW S) (it1 : IW S) (g1 : GW S) (tt1 : BW S) (te : OW S) (vs vs1 : List Nat) : DW S := fun ρ P => it ρ fun c ρ1 => gets (c.items ρ1) fun items => items.length ≤ sizeLine →
  lcO c items g tt it1 g1 tt1 te vs vs1 (fun acc ρ2 => P (.own acc) { ρ2 with sl := unwipe ρ1.sl ρ2.sl vs }) items [] { ρ1 with sl := wipeD ρ1.sl vs }
theorem wipe_sub {σ : L2.St} {vs vs1 : List Nat} (h : ∀ i ∈ vs1, i ∈ vs) : wipe (wipe σ vs1) vs = wipe σ vs := by
  apply List.ext_getElem?
  intro j
  rw [wipe_get, wipe_length, wipe_get, wipe_get]
  by_cases e : j ∈ vs
  · rw [if_pos e, if_pos e]
  · rw [if_neg e, if_neg e, if_neg fun z => e (h j z)]
theorem lc2_step {K : Fg} {it it1 : IW S} {g g1 : GW S} {tt tt1 : BW S} {te : OW S} {is is1 vs vs1 : List Nat} (hv : ∀ i ∈ is, i ∈ vs) (hv1 : ∀ i ∈ is1, i ∈ vs1) (hvv : ∀ i ∈ vs1, i ∈ vs) {σ : L2.St} {H : Hp} {Q : VK} (h : liftO K (tmpD (dLc2 it g tt it1 g1 tt1 te vs vs1)) σ H Q) :
    tLc2 (liftI K it) (liftG K is g) (liftT K tt) (liftI K it1) (liftG K is1 g1) (liftT K tt1) (liftO K te) vs vs1 σ H Q := by
  obtain ⟨B, pa, τ, F, ρ, θ, P, R, hl, h, q⟩ := toE h
  refine ⟨B, pa, τ, F, ρ, θ, _, R, hl, h, fun c ρ1 us H1 F1 J h1 hl1 hk R1 s1 src => fun Da hDa => ?_⟩
  obtain ⟨items, ei, h1⟩ := gets_elim h1
  have hτ : τ.length = θ.length := by have := (R1.pops (by simp [hk])).len; simp at this; omega
  have R1' : Rel K B pa (σ ++ (τ ++ us.map some)) H1 F1 (ρ1.sl ++ (θ ++ c.ks.map Tk.sl)) ρ1.pn := by simpa only [List.append_assoc] using R1
  obtain ⟨ds0, er, ef⟩ := Option.bind_eq_some_iff.mp ei
  have rd0 := reads_all (σ := σ) hl1 c.ks us τ θ ds0 hτ hk R1' s1 er
  obtain ⟨_, hsz⟩ := src.stop H1 F1 ds0 items R1.sz R1.fh rd0 ef
  have h1 := h1 hsz
  generalize hQ0 : (fun acc (ρ2 : En S) => P (.own acc) { ρ2 with sl := unwipe ρ1.sl ρ2.sl vs }) = Q0 at h1
  -- the state at the outer loop's head
  let Hd : Nat → Hp → Prop := fun i Hc => ∃ (ρc ρ0 : En S) (Fc : Hp) (acc : List D), Rel K ⟨B.H0, F1, B.M⟩ pa (wipe σ vs ++ (τ ++ us.map some) ++ [some (.ref Da)]) Hc Fc (ρc.sl ++ (θ ++ c.ks.map Tk.sl) ++ [.own acc]) ρc.pn ∧ ρc.sl.length = σ.length ∧ ρc.sl = wipeD ρ0.sl vs ∧
    lcO c items g tt it1 g1 tt1 te vs vs1 Q0 (items.drop i) acc ρc
  refine ⟨fun i m Hc => i ≤ items.length ∧ m = items.length - i ∧ Hd i Hc, ⟨items.length, Nat.zero_le _, rfl, { ρ1 with sl := wipeD ρ1.sl vs }, ρ1, F1, [], ?_, by simp [wipeD_len, hl1], rfl, h1⟩, ?_⟩
  · have R2 := R1'.focus.pushOwn (vs := []) hDa .nil (Nat.zero_le _)
    rw [List.append_assoc σ, List.append_assoc ρ1.sl] at R2
    have R3 := R2.wiped vs hl1
    rw [← List.append_assoc (wipe σ vs), ← List.append_assoc (wipeD ρ1.sl vs)] at R3
    exact R3
  · rintro i m Hc ⟨hi, rfl, ρc, ρ0, Fc, acc, Rc, hlc, hw, hq⟩
    by_cases hlt : i < items.length
    · rw [List.drop_eq_getElem_cons hlt] at hq
      obtain ⟨hlive, hq⟩ := hq
      obtain ⟨ds, rd, ef⟩ := live_read Rc.pop hlc hτ hw hk s1 hlive
      obtain ⟨go, yl⟩ := src.step Hc Fc ds items i items[i] Rc.sz Rc.fh rd ef (List.getElem?_eq_getElem hlt)
      refine .inr ⟨go, fun H' => Hd (i + 1) H', fun H' hh => ⟨items.length - (i + 1), by omega, hlt, rfl, hh⟩, fun x H' hy => ?_⟩
      obtain ⟨F', hF', R', dx⟩ := Rc.yl (yl x H' hy)
      refine ⟨⟨B.H0, F1, B.M⟩, pa, τ ++ us.map some ++ [some (.ref Da)], F', ρc, θ ++ c.ks.map Tk.sl ++ [.own acc], _, items[i], by simpa only [List.append_assoc] using R', by rw [wipe_length]; exact hlc, dx, hq, fun ρ2 σ2 h2 l1 l2 w2 R2 => ⟨by rw [w2 vs hv, wipe_wipe], ?_⟩⟩
      rw [wipe_length] at l1 l2
      have ew : wipe σ2 vs = wipe σ vs := by rw [w2 vs hv, wipe_wipe]
      refine ⟨⟨B.H0, F1, B.M⟩, pa, _, F', ρ2, _, _, R2, by omega, h2, fun b ρ3 H3 F3 h3 l3 R3 => ?_⟩
      cases b with
      | false =>
        refine iteF ⟨{ ρ3 with sl := wipeD ρ3.sl vs }, ρ3, F3, acc, ?_, by simp [wipeD_len]; omega, rfl, by simpa using h3⟩
        have R4 := R3.wiped vs (by omega)
        rw [ew] at R4
        simpa only [List.append_assoc] using R4
      | true =>
        have h3 := (show (if true = true then _ else _ : Prop) from h3)
        rw [if_pos rfl] at h3
        refine iteT ⟨⟨B.H0, F1, B.M⟩, pa, _, F3, ρ3, _, _, R3, by omega, h3, fun c1 ρ4 us1 H4 F4 J1 h4 l4 hk1 R4 s4 src1 => ?_⟩
        obtain ⟨items1, ei1, hsz1, h4⟩ := gets_elim h4
        have R4' : Rel K ⟨B.H0, F1, B.M⟩ pa (σ2 ++ (τ ++ us.map some ++ [some (.ref Da)] ++ us1.map some)) H4 F4 (ρ4.sl ++ (θ ++ c.ks.map Tk.sl ++ [.own acc] ++ c1.ks.map Tk.sl)) ρ4.pn := by simpa only [List.append_assoc] using R4
        have hτ1 : (τ ++ us.map some ++ [some (V.ref Da)]).length = (θ ++ c.ks.map Tk.sl ++ [Sl.own acc]).length := by simp [hτ, hk]
        refine ⟨fun j k Hc => ∃ (ρd ρe : En S) (Fd : Hp) (acc1 : List D), Rel K ⟨B.H0, F1, B.M⟩ pa (wipe σ2 vs1 ++ (τ ++ us.map some ++ [some (.ref Da)] ++ us1.map some)) Hc Fd (ρd.sl ++ (θ ++ c.ks.map Tk.sl ++ [.own acc1] ++ c1.ks.map Tk.sl)) ρd.pn ∧ ρd.sl.length = σ2.length ∧ ρd.sl = wipeD ρe.sl vs1 ∧ j ≤ items1.length ∧ k = items1.length - j ∧ acc1.length ≤ acc.length + j ∧
          lcW c1 items1 g1 tt1 te vs1 (fun acc' ρ4 => lcO c items g tt it1 g1 tt1 te vs vs1 Q0 (items.drop (i + 1)) acc' { ρ4 with sl := wipeD ρ4.sl vs }) (items1.drop j) acc1 ρd,
          ⟨items1.length, { ρ4 with sl := wipeD ρ4.sl vs1 }, ρ4, F4, acc, R4'.wiped vs1 (by omega), by simp [wipeD_len]; omega, rfl, Nat.zero_le _, rfl, Nat.le_refl _, h4⟩, ?_⟩
        rintro j k Hd' ⟨ρd, ρe, Fd, acc1, Rd, hld, hwd, hj, rfl, ha, hqd⟩
        have hτ2 : (τ ++ us.map some ++ [some (V.ref Da)]).length = (θ ++ c.ks.map Tk.sl ++ [Sl.own acc1]).length := by simp [hτ, hk]
        by_cases hjl : j < items1.length
        · rw [List.drop_eq_getElem_cons hjl] at hqd
          obtain ⟨hlv, hqd⟩ := hqd
          obtain ⟨ds1, rd1, ef1⟩ := live_read Rd hld hτ2 hwd hk1 s4 hlv
          obtain ⟨go1, yl1⟩ := src1.step Hd' Fd ds1 items1 j items1[j] Rd.sz Rd.fh rd1 ef1 (List.getElem?_eq_getElem hjl)
          refine .inr ⟨go1, fun H' => ∃ (ρd ρe : En S) (Fd : Hp) (acc1 : List D), Rel K ⟨B.H0, F1, B.M⟩ pa (wipe σ2 vs1 ++ (τ ++ us.map some ++ [some (.ref Da)] ++ us1.map some)) H' Fd (ρd.sl ++ (θ ++ c.ks.map Tk.sl ++ [.own acc1] ++ c1.ks.map Tk.sl)) ρd.pn ∧ ρd.sl.length = σ2.length ∧ ρd.sl = wipeD ρe.sl vs1 ∧ acc1.length ≤ acc.length + (j + 1) ∧
            lcW c1 items1 g1 tt1 te vs1 (fun acc' ρ4 => lcO c items g tt it1 g1 tt1 te vs vs1 Q0 (items.drop (i + 1)) acc' { ρ4 with sl := wipeD ρ4.sl vs }) (items1.drop (j + 1)) acc1 ρd,
            fun H' ⟨ρd, ρe, Fd, acc1, a1, a2, a3, a5, a6⟩ => ⟨items1.length - (j + 1), by omega, ρd, ρe, Fd, acc1, a1, a2, a3, hjl, rfl, a5, a6⟩, fun y H' hy => ?_⟩
          obtain ⟨F5, hF5, R5, dy⟩ := Rd.yl (yl1 y H' hy)
          refine ⟨⟨B.H0, F1, B.M⟩, pa, τ ++ us.map some ++ [some (.ref Da)] ++ us1.map some, F5, ρd, θ ++ c.ks.map Tk.sl ++ [.own acc1] ++ c1.ks.map Tk.sl, _, items1[j], R5, by rw [wipe_length]; exact hld, dy, hqd, fun ρ5 σ3 h5 l5 l6 w5 R6 => ⟨by rw [w5 vs1 hv1, wipe_wipe], ?_⟩⟩
          rw [wipe_length] at l5 l6
          have ew1 : wipe σ3 vs1 = wipe σ2 vs1 := by rw [w5 vs1 hv1, wipe_wipe]
          refine ⟨⟨B.H0, F1, B.M⟩, pa, _, F5, ρ5, _, _, R6, by omega, h5, fun b ρ6 H6 F6 h6 l7 R7 => ?_⟩
          cases b with
          | false =>
            refine iteF ⟨{ ρ6 with sl := wipeD ρ6.sl vs1 }, ρ6, F6, acc1, ?_, by simp [wipeD_len]; omega, rfl, by omega, by simpa using h6⟩
            have R8 := R7.wiped vs1 (by omega)
            rw [ew1] at R8
            exact R8
          | true =>
            have h6 := (show (if true = true then _ else _ : Prop) from h6)
            rw [if_pos rfl] at h6
            refine iteT ⟨⟨B.H0, F1, B.M⟩, pa, _, F6, ρ6, _, _, R7, by omega, h6, fun k ρ7 z H7 F7 h7 l8 R8 _ => ?_⟩
            obtain ⟨d, ek, h7⟩ := gets_elim h7
            have ek := valD_some ek
            subst ek
            obtain ⟨⟨u, g2, g3⟩, _⟩ := Rel.last (s := .val d) R8
            cases g2
            have R9 : Rel K ⟨B.H0, F1, B.M⟩ pa (σ3 ++ (τ ++ us.map some) ++ [some (.ref Da)] ++ us1.map some) H7 F7 (ρ7.sl ++ (θ ++ c.ks.map Tk.sl) ++ [.own acc1] ++ c1.ks.map Tk.sl) ρ7.pn := by simpa only [List.append_assoc] using R8.pop
            have Ra := R9.pops (by simp [hk1])
            obtain ⟨⟨a', av, q2, q3, q4, _⟩, q1⟩ := Ra.last
            cases q2
            have hal : av.length < sizeLine := by rw [q4.len]; omega
            refine ⟨av, q3, hal, { ρ7 with sl := wipeD ρ7.sl vs1 }, ρ7, F7, acc1 ++ [d], ?_, by simp [wipeD_len]; omega, rfl, by simp; omega, h7⟩
            have Rb := R9.write (i := (ρ7.sl ++ (θ ++ c.ks.map Tk.sl)).length) (a := Da) (ys := acc1 ++ [d]) (vs := av ++ [z]) (by rw [List.getElem?_append_left (by simp)]; exact app_last _ _) (by
              have := List.getElem?_append_left (l₂ := us1.map some) (List.getElem?_eq_some_iff.mp q1).1
              rw [this]
              exact q1) (q4.append (.cons g3 .nil)) (by simp; omega)
            rw [List.set_append_left _ _ (by simp), List.set_append_right _ _ (Nat.le_refl _), Nat.sub_self] at Rb
            have Rc2 : Rel K ⟨B.H0, F1, B.M⟩ pa (σ3 ++ (τ ++ us.map some ++ [some (.ref Da)] ++ us1.map some)) (upd H7 Da (.lst (av ++ [z]))) F7 (ρ7.sl ++ (θ ++ c.ks.map Tk.sl ++ [.own (acc1 ++ [d])] ++ c1.ks.map Tk.sl)) ρ7.pn := by simpa only [List.append_assoc, List.set_cons_zero] using Rb
            have Rd2 := Rc2.wiped vs1 (by omega)
            rw [ew1] at Rd2
            exact Rd2
        · have e : j = items1.length := by omega
          subst e
          rw [List.drop_length] at hqd
          obtain ⟨hlv, hqd⟩ := hqd
          obtain ⟨ds1, rd1, ef1⟩ := live_read Rd hld hτ2 hwd hk1 s4 hlv
          refine .inl ⟨(src1.stop Hd' Fd ds1 items1 Rd.sz Rd.fh rd1 ef1).1, { ρd with sl := wipeD ρd.sl vs }, ρd, Fd, acc1, ?_, by simp [wipeD_len]; omega, rfl, hqd⟩
          have Re : Rel K ⟨B.H0, F1, B.M⟩ pa (wipe σ2 vs1 ++ (τ ++ us.map some ++ [some (.ref Da)]) ++ us1.map some) Hd' Fd (ρd.sl ++ (θ ++ c.ks.map Tk.sl ++ [.own acc1]) ++ c1.ks.map Tk.sl) ρd.pn := by simpa only [List.append_assoc] using Rd
          have Rf := (Re.pops (by simp [hk1])).wiped vs (by rw [wipe_length]; exact hld)
          rw [wipe_sub hvv, ew] at Rf
          simpa only [List.append_assoc] using Rf
    · have e : i = items.length := by omega
      subst e
      rw [List.drop_length] at hq
      obtain ⟨hlive, hq⟩ := hq
      obtain ⟨ds, rd, ef⟩ := live_read Rc.pop hlc hτ hw hk s1 hlive
      rw [← hQ0] at hq
      refine .inl ⟨(src.stop Hc Fc ds items Rc.sz Rc.fh rd ef).1, q _ _ _ Hc Fc hq (by simp [unwipe_len, hlc]) ?_⟩
      have R5 : Rel K ⟨B.H0, F1, B.M⟩ pa (wipe σ vs ++ (τ ++ us.map some ++ [some (.ref Da)])) Hc Fc (ρc.sl ++ (θ ++ c.ks.map Tk.sl ++ [.own acc])) ρc.pn := by simpa only [List.append_assoc] using Rc
      have R6 := (R5.rebase R1').unwiped vs hlc R1' hl1 Rc.f0
      have R7 : Rel K B pa ((σ ++ τ) ++ us.map some ++ [some (.ref Da)]) Hc Fc ((unwipe ρ1.sl ρc.sl vs ++ θ) ++ c.ks.map Tk.sl ++ [.own acc]) ρc.pn := by simpa only [List.append_assoc] using R6
      exact R7.dropMid (by simp [unwipe_len, hlc, hl1, hτ]) (by simp [hk])
section
variable {X : Cx} {tg iter tg1 iter1 elt : Expr} {ifs ifs1 : List Expr} {scope : Scope} {pos : Pos} {k : Nat} {it it1 : IW S} {g g1 : GW S} {tt tt1 : BW S} {te : OW S} {is is1 : List Nat}
theorem ce_lc2 (own : List (Str × Nat)) (vs1 : List Nat) (hx : XO X k) (hi : CI (S := S) X tg iter it)
    (hg : ∀ (s : Shared) (H : Hp) (C : Addr) (cl : List (Str × Addr)) (fp : List Addr), CG (S := S) (X.blk s H scope (compEnvC scope cl C X.env) fp) tg is g)
    (ht : ∀ (s : Shared) (H : Hp) (C : Addr) (cl : List (Str × Addr)) (fp : List Addr), CTs (S := S) (X.blk s H scope (compEnvC scope cl C X.env) fp) ifs tt)
    (hi1 : ∀ (s : Shared) (H : Hp) (C : Addr) (cl : List (Str × Addr)) (fp : List Addr), CI (S := S) (X.blk s H scope (compEnvC scope cl C X.env) fp) tg1 iter1 it1)
    (hg1 : ∀ (s : Shared) (H : Hp) (C : Addr) (cl : List (Str × Addr)) (fp : List Addr), CG (S := S) (X.blk s H scope (compEnvC scope cl C X.env) fp) tg1 is1 g1)
    (ht1 : ∀ (s : Shared) (H : Hp) (C : Addr) (cl : List (Str × Addr)) (fp : List Addr), CTs (S := S) (X.blk s H scope (compEnvC scope cl C X.env) fp) ifs1 tt1)
    (he : ∀ (s : Shared) (H : Hp) (C : Addr) (cl : List (Str × Addr)) (fp : List Addr), CO (S := S) (X.blk s H scope (compEnvC scope cl C X.env) fp) elt te)
    (ok : blkC X.N X.env.scope scope own = true := by kernel_rfl) (hv : ∀ i ∈ is, i ∈ own.map (·.2) := by decide) (hv1 : ∀ i ∈ is1, i ∈ vs1 := by decide) (hvv : ∀ i ∈ vs1, i ∈ own.map (·.2) := by decide)
    (hs : ∀ x, foldedSetIterable iter X.env x = pure x := by intro _; rfl) (hs1 : ∀ env x, foldedSetIterable iter1 env x = pure x := by intro _ _; rfl) :
    CE (S := S) X (.ListComp elt [⟨tg, iter, ifs, 0⟩, ⟨tg1, iter1, ifs1, 0⟩] scope pos) (dLc2 it g tt it1 g1 tt1 te (own.map (·.2)) vs1) :=
  pe_mono (pe_lc2 hx.calm hx.nd hi (blkOk_by ok) hvv hg ht hi1 hg1 ht1 he hs hs1) fun _ _ _ h => lc2_step hv hv1 hvv h
/-- x = [.. for .. for ..], x a local -/
theorem cs_setLc2 (i : Nat) {x : Str} {py p : Pos} (own : List (Str × Nat)) (vs1 : List Nat) (hx0 : XO X k) (hi : CI (S := S) X tg iter it)
    (hg : ∀ (s : Shared) (H : Hp) (C : Addr) (cl : List (Str × Addr)) (fp : List Addr), CG (S := S) (X.blk s H scope (compEnvC scope cl C X.env) fp) tg is g)
    (ht : ∀ (s : Shared) (H : Hp) (C : Addr) (cl : List (Str × Addr)) (fp : List Addr), CTs (S := S) (X.blk s H scope (compEnvC scope cl C X.env) fp) ifs tt)
    (hi1 : ∀ (s : Shared) (H : Hp) (C : Addr) (cl : List (Str × Addr)) (fp : List Addr), CI (S := S) (X.blk s H scope (compEnvC scope cl C X.env) fp) tg1 iter1 it1)
    (hg1 : ∀ (s : Shared) (H : Hp) (C : Addr) (cl : List (Str × Addr)) (fp : List Addr), CG (S := S) (X.blk s H scope (compEnvC scope cl C X.env) fp) tg1 is1 g1)
    (ht1 : ∀ (s : Shared) (H : Hp) (C : Addr) (cl : List (Str × Addr)) (fp : List Addr), CTs (S := S) (X.blk s H scope (compEnvC scope cl C X.env) fp) ifs1 tt1)
    (he : ∀ (s : Shared) (H : Hp) (C : Addr) (cl : List (Str × Addr)) (fp : List Addr), CO (S := S) (X.blk s H scope (compEnvC scope cl C X.env) fp) elt te)
    (hxi : X.N[i]? = some x := by rfl) (hyl : X.env.scope.names.lookup x = some .local := by rfl)
    (hsw : swapsWith (.ListComp elt [⟨tg, iter, ifs, 0⟩, ⟨tg1, iter1, ifs1, 0⟩] scope p) (some (.Name x py)) pos.line X.env = pure true := by exact sw_true rfl rfl rfl (by decide +kernel))
    (ok : blkC X.N X.env.scope scope own = true := by kernel_rfl) (hv : ∀ i ∈ is, i ∈ own.map (·.2) := by decide) (hv1 : ∀ i ∈ is1, i ∈ vs1 := by decide) (hvv : ∀ i ∈ vs1, i ∈ own.map (·.2) := by decide)
    (hs : ∀ x, foldedSetIterable iter X.env x = pure x := by intro _; rfl) (hs1 : ∀ env x, foldedSetIterable iter1 env x = pure x := by intro _ _; rfl) :
    CS (S := S) X (.Assign [.Name x py] (.ListComp elt [⟨tg, iter, ifs, 0⟩, ⟨tg1, iter1, ifs1, 0⟩] scope p) pos) (dSet i (dLc2 it g tt it1 g1 tt1 te (own.map (·.2)) vs1)) := by
  refine ⟨fun pins s σ H Z I h => ?_⟩
  exact (ps_setLc2 hx0.calm hx0.nd hxi hyl hsw hi (blkOk_by ok) hvv hg ht hi1 hg1 ht1 he hs hs1).run pins s σ H Z I (lc2_step hv hv1 hvv (set_step (by rw [I.len]; exact (List.getElem?_eq_some_iff.mp hxi).1) h))
end
/-! readings -/
section
variable {s0 : Sl} {l0 : List Sl} {pn : S} {it it1 : IW S} {g g1 : GW S} {tt tt1 : BW S} {te : OW S} {vs vs1 : List Nat} {P : Rs → En S → Prop}
@[simp↓] theorem z_dLc2 : dLc2 it g tt it1 g1 tt1 te vs vs1 ⟨s0 :: l0, pn⟩ P = it ⟨s0 :: l0, pn⟩ fun c ρ1 => gets (c.items ρ1) fun items => items.length ≤ sizeLine →
  lcO c items g tt it1 g1 tt1 te vs vs1 (fun acc ρ2 => P (.own acc) ⟨unwipe ρ1.sl ρ2.sl vs, ρ2.pn⟩) items [] ⟨wipeD ρ1.sl vs, ρ1.pn⟩ := rfl
theorem lcW_shift {c : Sc} {items : List D} (Q : List D → En S → Prop) : ∀ (r acc : List D), lcW c items g tt te vs Q r acc = lcW c items g tt te vs (fun a => Q (acc ++ a)) r [] := by
  have key : ∀ (r acc acc0 : List D), lcW c items g tt te vs Q r (acc ++ acc0) = lcW c items g tt te vs (fun a => Q (acc ++ a)) r acc0 := by
    intro r
    induction r with
    | nil => intro acc acc0; rfl
    | cons d r ih =>
      intro acc acc0
      funext ρ
      unfold lcW
      have e : ∀ (y : D), lcW c items g tt te vs Q r (acc ++ acc0 ++ [y]) = lcW c items g tt te vs (fun a => Q (acc ++ a)) r (acc0 ++ [y]) := fun y => by rw [List.append_assoc]; exact ih _ _
      simp only [e, ih]
  intro r acc
  have := key r acc []
  rwa [List.append_nil] at this
theorem lcO_inv {c : Sc} {items : List D} {Q : List D → En S → Prop} (J : Nat → List D → En S → Prop) (its : ∀ i acc ρ, J i acc ρ → c.items ρ = some items)
    (step : ∀ (i : Nat) (d : D) (acc : List D) (ρ : En S), items[i]? = some d → J i acc ρ → ∀ N : List D → En S → Prop, (∀ acc' ρ', J (i + 1) acc' ρ' → N acc' ρ') →
      g d ρ fun ρ1 => tt ρ1 fun b ρ2 => if b = true then it1 ρ2 fun c1 ρ3 => gets (c1.items ρ3) fun items1 => acc.length + items1.length ≤ sizeLine ∧
        lcW c1 items1 g1 tt1 te vs1 (fun acc' ρ4 => N acc' { ρ4 with sl := wipeD ρ4.sl vs }) items1 acc { ρ3 with sl := wipeD ρ3.sl vs1 } else N acc { ρ2 with sl := wipeD ρ2.sl vs })
    (fin : ∀ acc ρ, J items.length acc ρ → Q acc ρ) {ρ : En S} (h0 : J 0 [] ρ) : lcO c items g tt it1 g1 tt1 te vs vs1 Q items [] ρ := by
  have key : ∀ (n i : Nat) (acc : List D) (ρ : En S), i + n = items.length → J i acc ρ → lcO c items g tt it1 g1 tt1 te vs vs1 Q (items.drop i) acc ρ := by
    intro n
    induction n with
    | zero =>
      intro i acc ρ e h
      rw [List.drop_eq_nil_of_le (by omega)]
      exact ⟨its _ _ _ h, fin acc ρ (by rw [← show i = items.length by omega]; exact h)⟩
    | succ n ih =>
      intro i acc ρ e h
      have hi : i < items.length := by omega
      rw [List.drop_eq_getElem_cons hi]
      exact ⟨its _ _ _ h, step i items[i] acc ρ (List.getElem?_eq_getElem hi) h (fun acc ρ => lcO c items g tt it1 g1 tt1 te vs vs1 Q (items.drop (i + 1)) acc ρ) fun acc' ρ' h' => ih (i + 1) acc' ρ' (by omega) h'⟩
  exact key items.length 0 [] ρ (by omega) h0
/-- each outer item gives a list, no pen is drawn -/
theorem lcO_flat {α : Type} {c : Sc} {items : List D} {Q : List D → En S → Prop} {ρ0 : En S} {ts : List α} (e : α → D) (f : α → List D) (n : Nat) (hi : items = ts.map e) (hc : c.items ρ0 = some items) (hn : (ts.flatMap f).length ≤ n)
    (step : ∀ t ∈ ts, ∀ acc : List D, acc.length + (f t).length ≤ n → ∀ N : List D → En S → Prop, N (acc ++ f t) ρ0 →
      g (e t) ρ0 fun ρ1 => tt ρ1 fun b ρ2 => if b = true then it1 ρ2 fun c1 ρ3 => gets (c1.items ρ3) fun items1 => acc.length + items1.length ≤ sizeLine ∧
        lcW c1 items1 g1 tt1 te vs1 (fun acc' ρ4 => N acc' { ρ4 with sl := wipeD ρ4.sl vs }) items1 acc { ρ3 with sl := wipeD ρ3.sl vs1 } else N acc { ρ2 with sl := wipeD ρ2.sl vs })
    (q : Q (ts.flatMap f) ρ0) : lcO c items g tt it1 g1 tt1 te vs vs1 Q items [] ρ0 := by
  refine lcO_inv (fun i acc ρ => ρ = ρ0 ∧ acc = (ts.take i).flatMap f) ?_ ?_ ?_ ⟨rfl, rfl⟩
  · rintro i acc ρ ⟨rfl, _⟩
    exact hc
  · rintro i d acc ρ h ⟨rfl, rfl⟩ N hN
    rw [hi, List.getElem?_map] at h
    obtain ⟨t, h1, rfl⟩ := Option.map_eq_some_iff.mp h
    have e1 : (ts.take (i + 1)).flatMap f = (ts.take i).flatMap f ++ f t := by rw [take_snocA h1, List.flatMap_append]; simp
    refine step t (List.mem_of_getElem? h1) _ ?_ N (hN _ _ ⟨rfl, e1.symm⟩)
    have e2 : ts.flatMap f = (ts.take (i + 1)).flatMap f ++ (ts.drop (i + 1)).flatMap f := by rw [← List.flatMap_append, List.take_append_drop]
    rw [e2, e1, List.length_append, List.length_append] at hn
    omega
  · rintro acc ρ ⟨rfl, rfl⟩
    rw [hi, List.length_map, List.take_length]
    exact q
end
end Dk
set_option Elab.async false
set_option linter.all false
set_option maxRecDepth 100000
set_option maxHeartbeats 4000000
/-! Ds1: set(xs) of a list or tuple, whatever the loop does; sets of ints, sorted. -/
namespace Dk
open PySem PySem.Spec PyProof.Rows L2
section
variable {P : Program} {w : World} {A : Around} {E : Value → Shared → Prop} {s : Shared}
abbrev newSet (w : World) : Obj := { cls := .type "set", dict := none, data := .set #[] 0 (.fresh 0 0 (!w.params.followText "set-order")) }
/-- what the loop over the items owes -/
def SetLoop (P : Program) (w : World) (A' : Around) (h0 : Heap) (items : Array Value) (Post : Heap → Prop) : Prop :=
  ∀ (I : Addr) (s1 : Shared) (St : Nat → Shared → Prop) (fp wr : List Addr) (R : Result → Shared → Prop), h0.objs.size ∉ fp →
    WalksS P w A'.in1 I fp wr (fun a b => b = a) items.size (fun i v => items[i]? = some v) St → St 0 s1 → s1.heap.get? h0.objs.size = some (newSet w) → (∀ b o, h0.get? b = some o → s1.heap.get? b = some o) →
    (∀ b ∈ wr, h0.get? b = none) →
    (∀ s', Moved (h0.objs.size :: wr) (fun a b => b = a) s1 s' → Post s'.heap → R (.ok (.ret .none)) s') → codeAny (model P w) A' (.builtin "set.update.loop" ⟨[.ref h0.objs.size, .ref I], []⟩) R s1
theorem call_set_seq {c : Bool} {l : Addr} {items : Array Value} {Post : Heap → Prop} {Q : Value → Shared → Prop} (hh : A.handled = none) (hl : StC s.heap c l items)
    (hloop : ∀ A' : Around, A'.handled = none → A'.units ≤ A.units + 8 → SetLoop P w A' s.heap items Post)
    (h : ∀ (h' : Heap) (tk : Nat), Post h' → (∀ b o, s.heap.get? b = some o → h'.get? b = some o) → Q (.ref s.heap.objs.size) { s with heap := h', toks := tk }) :
    wpAny (model P w) A (call (.type "set") [.ref l]) Q E s := by
  obtain ⟨cc, tl, hmro⟩ := F.called_set.mro
  have hmade := F.called_set.made
  have hsub := F.called_set.sub
  refine wpAny_call (codeAny_of_tree ?_)
  show wpAny _ _ (callAny (.type "set") _) _ _ _
  refine wpAny_pure ⟨Code.quiet_builtin _ (by decide +kernel), codeAny_builtin F.entry_type_call ?_⟩
  rw [Around.under_plain (weight_type_call_type "set" [.ref l] []) rfl]
  have h1 := F.called_set.notType
  have h2 := F.called_set.canCreate
  have hct := F.typeCall_set_1 (.ref l)
  repeat (any_goals (first | assumption | wp_step))
  have hS : (s.heap.push (newSet w)).get? s.heap.objs.size = some (newSet w) := Heap.get?_push_size _ rfl
  refine codeAny_mono (code_set_led1 (.ref l) (E := E) (Q₁ := fun obj s₁ => obj = .ref s.heap.objs.size ∧ s₁ = { s with heap := s.heap.push (newSet w) }) ⟨rfl, rfl⟩) fun r s₁ hr => ?_
  cases r with
  | error e => exact hr
  | ok fl =>
    cases fl with
    | ret obj =>
      obtain ⟨rfl, rfl⟩ := hr
      have hT : Shared.TypeIs { s with heap := s.heap.push (newSet w) } (.ref s.heap.objs.size) "set" := ⟨_, hS, rfl⟩
      have hli := F.called_set.init.lookup
      have hbi := F.called_set.init.bind (.ref s.heap.objs.size)
      repeat (any_goals (first | assumption | wp_step))
      refine codeAny_mono (codeAny_call_builtin (R := wants (fun r s₂ => r = .none ∧ ∃ h' tk, s₂ = { s with heap := h', toks := tk } ∧ Post h' ∧ ∀ b o, s.heap.get? b = some o → h'.get? b = some o) E) F.called_set.init.plain F.entry_set_init (check_set_init_1 hT ?_)) fun r₂ s₂ hr₂ => ?_
      · cases c with
        | false =>
          obtain ⟨ol, hol, hcl, nl, hdl⟩ := hl
          obtain ⟨ocls, odict, odata, oslots⟩ := ol
          simp only at hcl hdl
          subst hcl; subst hdl
          have hol' : (s.heap.push (newSet w)).get? l = some { cls := .type "list", dict := odict, data := .seq items nl, slots := oslots } := Heap.get?_push_of_some _ hol
          have hsls := F.sub_list_set
          have hslf := F.sub_list_frozenset
          have hne : (Value.type "list" == Value.type "dict") = false := by decide
          have hl1 : (s.heap.push (newSet w)).IsList l items := ⟨_, hol', rfl, nl, rfl⟩
          unfold Builtin.«set.__init__» noKeywords Builtin.Frozenset.updateFrom
          generalize hPI : pyIter = PI
          wp_walk
          subst hPI
          refine wpAny_pyIter_list hl1 ?_
          refine wpAny_bind (wpAny_runValue ?_)
          have hlS : l < s.heap.objs.size := Heap.lt_size hol
          have hh3 : A.in1.in1.in1.handled = none := by simp [hh]
          have hneI : l ≠ (s.heap.push (newSet w)).objs.size := by rw [Heap.size_push]; exact Nat.ne_of_lt (Nat.lt_succ_of_lt hlS)
          refine hloop _ (by simp [hh]) (by simp) _ _ _ _ _ _ ?_ ((Walks.list hh3 _ l hneI items).toS) ⟨⟨_, Heap.get?_push_size _ rfl, rfl, rfl⟩, (hl1.push _)⟩ (Heap.get?_push_of_some _ hS) (fun b o e => Heap.get?_push_of_some _ (Heap.get?_push_of_some _ e)) (fun b hb => ?_) fun s' hm hp => ?_
          · rw [Heap.size_push]; simp only [List.mem_cons, List.not_mem_nil, or_false, not_or]
            exact ⟨Nat.ne_of_lt (Nat.lt_succ_self _), Nat.ne_of_gt hlS⟩
          · rw [Heap.size_push] at hb
            have hb := List.mem_singleton.mp hb
            rw [hb]
            cases q : s.heap.get? (s.heap.objs.size + 1) with
            | none => rfl
            | some o => exact absurd (Heap.lt_size q) (Nat.not_lt_of_le (Nat.le_succ _))
          · obtain ⟨h', g', d', tk', os'⟩ := s'
            have eg : g' = s.gens := hm.gens
            have ed : d' = s.drawn := hm.drawn
            have eo : os' = s.os := hm.os
            subst eg; subst ed; subst eo
            refine wpAny_pure ?_
            show wpAny _ _ (ret Value.none) _ _ _
            refine wpAny_pure ⟨rfl, h', tk', rfl, hp, fun b o e => ?_⟩
            have hb0 : b < s.heap.objs.size := Heap.lt_size e
            refine hm.heap b o ?_ (Heap.get?_push_of_some _ (Heap.get?_push_of_some _ e))
            rw [Heap.size_push]; simp only [List.mem_cons, List.not_mem_nil, or_false, not_or]
            exact ⟨Nat.ne_of_lt hb0, Nat.ne_of_lt (Nat.lt_succ_of_lt hb0)⟩
        | true =>
          obtain ⟨ol, hol, hcl, nl, hdl⟩ := hl
          obtain ⟨ocls, odict, odata, oslots⟩ := ol
          simp only at hcl hdl
          subst hcl; subst hdl
          have hol' : (s.heap.push (newSet w)).get? l = some { cls := .type "tuple", dict := odict, data := .seq items nl, slots := oslots } := Heap.get?_push_of_some _ hol
          have hsls := F.sub_tuple_set
          have hslf := F.sub_tuple_frozenset
          have hne : (Value.type "tuple" == Value.type "dict") = false := by decide
          have hl1 : (s.heap.push (newSet w)).IsTuple l items := ⟨_, hol', rfl, nl, rfl⟩
          unfold Builtin.«set.__init__» noKeywords Builtin.Frozenset.updateFrom
          generalize hPI : pyIter = PI
          wp_walk
          subst hPI
          refine wpAny_pyIter_tuple hl1 ?_
          refine wpAny_bind (wpAny_runValue ?_)
          have hlS : l < s.heap.objs.size := Heap.lt_size hol
          have hh3 : A.in1.in1.in1.handled = none := by simp [hh]
          have hneI : l ≠ (s.heap.push (newSet w)).objs.size := by rw [Heap.size_push]; exact Nat.ne_of_lt (Nat.lt_succ_of_lt hlS)
          refine hloop _ (by simp [hh]) (by simp) _ _ _ _ _ _ ?_ ((Walks.tuple hh3 _ l hneI items).toS) ⟨⟨_, Heap.get?_push_size _ rfl, rfl, rfl⟩, (hl1.push _)⟩ (Heap.get?_push_of_some _ hS) (fun b o e => Heap.get?_push_of_some _ (Heap.get?_push_of_some _ e)) (fun b hb => ?_) fun s' hm hp => ?_
          · rw [Heap.size_push]; simp only [List.mem_cons, List.not_mem_nil, or_false, not_or]
            exact ⟨Nat.ne_of_lt (Nat.lt_succ_self _), Nat.ne_of_gt hlS⟩
          · rw [Heap.size_push] at hb
            have hb := List.mem_singleton.mp hb
            rw [hb]
            cases q : s.heap.get? (s.heap.objs.size + 1) with
            | none => rfl
            | some o => exact absurd (Heap.lt_size q) (Nat.not_lt_of_le (Nat.le_succ _))
          · obtain ⟨h', g', d', tk', os'⟩ := s'
            have eg : g' = s.gens := hm.gens
            have ed : d' = s.drawn := hm.drawn
            have eo : os' = s.os := hm.os
            subst eg; subst ed; subst eo
            refine wpAny_pure ?_
            show wpAny _ _ (ret Value.none) _ _ _
            refine wpAny_pure ⟨rfl, h', tk', rfl, hp, fun b o e => ?_⟩
            have hb0 : b < s.heap.objs.size := Heap.lt_size e
            refine hm.heap b o ?_ (Heap.get?_push_of_some _ (Heap.get?_push_of_some _ e))
            rw [Heap.size_push]; simp only [List.mem_cons, List.not_mem_nil, or_false, not_or]
            exact ⟨Nat.ne_of_lt hb0, Nat.ne_of_lt (Nat.lt_succ_of_lt hb0)⟩
      · cases r₂ with
        | error e => exact hr₂
        | ok fl₂ =>
          cases fl₂ with
          | ret r =>
            obtain ⟨rfl, h', tk, rfl, hp, hk'⟩ := hr₂
            repeat (any_goals (first | assumption | wp_step))
            exact h _ _ hp hk'
          | _ => exact hr₂.elim
    | _ => exact hr.elim
theorem loop_ints {A' : Around} {h0 : Heap} {items : Array Value} {ns : List Int} (hit : IntsAre items.toList ns) (hb : ns.length + 1 < scanBound) :
    SetLoop P w A' h0 items fun h' => ∃ n, n ≤ ns.length ∧ SetR w h' h0.objs.size (fun j => decide (j ∈ ns)) n := fun I s1 St fp wr R hSf W hst hnew _ _ hR => by
  have hisz : items.size = ns.length := by
    have q := IntsAre.length hit
    rwa [Array.length_toList] at q
  refine set_update_ints W h0.objs.size hSf ns hisz hb (fun i v hv => ?_) (items.size - 0) 0 s1 (by omega) (Nat.zero_le _) hst ⟨0, Nat.le_refl 0, setR_new_at hnew⟩ fun s' c hm hc hS => hR s' hm ⟨c, by omega, hS⟩
  have hi : i < ns.length := by rw [← hisz]; exact (Array.getElem?_eq_some_iff.mp hv).1
  obtain ⟨t, e⟩ := PyProof.Rows.IntsAre.int_at hit i v (by rw [Array.getElem?_toList]; exact hv)
  refine ⟨ns[i], t, List.getElem?_eq_getElem hi, ?_⟩
  rw [e, List.getD_eq_getElem?_getD, List.getElem?_eq_getElem hi]
  rfl
theorem sorted_setI {a : Addr} {S : Int → Bool} {n : Nat} {Q : Value → Shared → Prop} (R : SetR w s.heap a S n) (hh : A.handled = none)
    (hQ : ∀ s' p (out : Array Value) (c : Nat) (ns : List Int), (∀ b o, s.heap.get? b = some o → s'.heap.get? b = some o) → s'.gens = s.gens → s'.os = s.os → s.heap.objs.size ≤ p →
      s'.heap.get? p = some (seqObj "list" out c) → IntsAre out.toList ns → ns.Pairwise (· < ·) → (∀ k, k ∈ ns ↔ S k = true) → Q (.ref p) s') :
    wpAny (model P w) A (call (.builtin "sorted") [.ref a]) Q E s := by
  obtain ⟨o, es, ep, t, ho, hex, hd, g, nd, hm, hb, hf, hn, hr, hl⟩ := R
  refine Calls.call_function_entry kind_sorted plain_sorted entry_sorted (args_sorted1 _) ?_
  unfold Builtin.«sorted»
  refine wpAny_bind (m := checkCount "sorted" 1 1 _) (wpAny_pure ?_)
  refine wpAny_bind (collect_set (A := A.in1) hh ⟨o, ho, hex.1, hd⟩ hf hb hr hl fun s1 vs k1 hz g1 o1 pm => ?_)
  have hvl : vs.length = es.size := by rw [pm.length_eq, List.length_map, Array.length_toList]
  have hvz : vs.length ≤ sizeLine := by
    rw [hvl, sizeLine_eq]
    unfold scanBound at hb
    omega
  have hI : IntsAre vs (vs.map SrtO.iv) := SrtO.ints_iv fun v hv => by
    obtain ⟨e, he, q⟩ := List.mem_map.mp (pm.mem_iff.mp hv)
    obtain ⟨k, tk, h1, _⟩ := g e he
    exact ⟨k, tk, by rw [← q]; exact h1⟩
  have pk : (vs.map SrtO.iv).Perm (es.toList.map keyOf) := by
    have q := pm.map SrtO.iv
    rw [List.map_map] at q
    have e : es.toList.map (SrtO.iv ∘ fun x => x.2) = es.toList.map keyOf := List.map_congr_left fun x hx => by
      obtain ⟨k, tk, h1, _⟩ := g x hx
      unfold keyOf
      show SrtO.iv x.2 = _
      rw [h1]
      rfl
    rwa [e] at q
  refine wpAny_bind (wpAny_newList ?_ hvz)
  have hoL : (s1.heap.push (seqObj "list" vs.toArray 0)).get? s1.heap.objs.size = some (seqObj "list" vs.toArray 0) := Heap.get?_push_size _ rfl
  refine wpAny_bind (wpAny_holding (wpAny_call_entry slot_list_sort ⟨_, hoL, rfl⟩ entry_list_sort (SrtO.list_sort_ord SrtO.swo_int hoL hvz (fun h2 => SrtO.ints_sortable hI h2) fun out a1 a2 => ⟨_, rfl, ?_⟩) (args_list_sort _)))
  obtain ⟨b1, b2, b3⟩ := SrtO.ints_out hI a1 a2
  obtain ⟨c, hc⟩ := sortedHeap_at (vs := vs) (out := out.toArray) hoL
  have pn := b2.trans pk
  refine wpAny_pure ⟨_, rfl, hQ _ s1.heap.objs.size out.toArray c (out.map SrtO.iv) (fun b u e => ?_) g1 o1 hz hc (by simpa using b1) (lt_of_le_nodup _ b3 (pn.nodup_iff.mpr nd)) fun k => by rw [pn.mem_iff, ← hm k]⟩
  have q := k1 b u e
  have hlt := Heap.lt_size q
  show (sortedHeap (s1.heap.push (seqObj "list" vs.toArray 0)) s1.heap.objs.size vs out.toArray).get? b = some u
  rw [sortedHeap_old (Nat.ne_of_lt hlt) (by rw [Heap.size_push]; exact Nat.lt_succ_of_lt hlt)]
  exact Heap.get?_push_of_some _ q
end
/-! ### the ints of a list, ascending, each once -/
def insU (x : Int) : List Int → List Int
  | [] => [x]
  | y :: l => if x < y then x :: y :: l else if x = y then y :: l else y :: insU x l
def sortU : List Int → List Int
  | [] => []
  | x :: l => insU x (sortU l)
theorem insU_mem {x k : Int} : ∀ {l : List Int}, k ∈ insU x l ↔ k = x ∨ k ∈ l
  | [] => by simp [insU]
  | y :: l => by
    unfold insU
    split
    · simp
    · split
      · rename_i e
        subst e
        simp
      · rw [List.mem_cons, insU_mem, List.mem_cons]
        constructor
        · rintro (h | h | h)
          · exact .inr (.inl h)
          · exact .inl h
          · exact .inr (.inr h)
        · rintro (h | h | h)
          · exact .inr (.inl h)
          · exact .inl h
          · exact .inr (.inr h)
theorem insU_up {x : Int} : ∀ {l : List Int}, l.Pairwise (· < ·) → (insU x l).Pairwise (· < ·)
  | [], _ => by simp [insU]
  | y :: l, h => by
    obtain ⟨h1, h2⟩ := List.pairwise_cons.mp h
    unfold insU
    split
    · rename_i e
      refine List.pairwise_cons.mpr ⟨fun z hz => ?_, h⟩
      rcases List.mem_cons.mp hz with rfl | hz
      · exact e
      · have := h1 z hz; omega
    · split
      · exact h
      · refine List.pairwise_cons.mpr ⟨fun z hz => ?_, insU_up h2⟩
        rcases insU_mem.mp hz with rfl | hz
        · omega
        · exact h1 z hz
theorem sortU_mem {k : Int} : ∀ {l : List Int}, k ∈ sortU l ↔ k ∈ l
  | [] => by simp [sortU]
  | x :: l => by rw [sortU, insU_mem, List.mem_cons, sortU_mem]
theorem sortU_up : ∀ l : List Int, (sortU l).Pairwise (· < ·)
  | [] => List.Pairwise.nil
  | x :: l => insU_up (sortU_up l)
theorem up_uniq : ∀ {xs ys : List Int}, xs.Pairwise (· < ·) → ys.Pairwise (· < ·) → (∀ k, k ∈ xs ↔ k ∈ ys) → xs = ys
  | [], [], _, _, _ => rfl
  | [], y :: ys, _, _, h => absurd ((h y).mpr List.mem_cons_self) (by simp)
  | x :: xs, [], _, _, h => absurd ((h x).mp List.mem_cons_self) (by simp)
  | x :: xs, y :: ys, hx, hy, h => by
    obtain ⟨a1, a2⟩ := List.pairwise_cons.mp hx
    obtain ⟨b1, b2⟩ := List.pairwise_cons.mp hy
    have e : x = y := by
      have p := (h x).mp List.mem_cons_self
      have q := (h y).mpr List.mem_cons_self
      rcases List.mem_cons.mp p with p | p
      · exact p
      · rcases List.mem_cons.mp q with q | q
        · exact q.symm
        · have := b1 x p
          have := a1 y q
          omega
    subst e
    rw [up_uniq a2 b2 fun k => ?_]
    constructor
    · intro hk
      rcases List.mem_cons.mp ((h k).mp (List.mem_cons_of_mem _ hk)) with e | e
      · have := a1 k hk; omega
      · exact e
    · intro hk
      rcases List.mem_cons.mp ((h k).mpr (List.mem_cons_of_mem _ hk)) with e | e
      · have := b1 k hk; omega
      · exact e
theorem sortU_len : ∀ l : List Int, (sortU l).length ≤ l.length
  | [] => Nat.le_refl _
  | x :: l => by
    have h := sortU_len l
    have k : ∀ m : List Int, (insU x m).length ≤ m.length + 1 := by
      intro m
      induction m with
      | nil => exact Nat.le_refl _
      | cons y m ih =>
        unfold insU
        split
        · simp
        · split
          · simp
          · simp; exact ih
    have := k (sortU l)
    rw [sortU, List.length_cons]
    omega
/-- ascending and each once: nothing changes -/
theorem sortU_id {l : List Int} (h : l.Pairwise (· < ·)) : sortU l = l := up_uniq (sortU_up l) h fun k => sortU_mem
/-! ### sorted(set(xs)), ints -/
def setI (d : D) : Option (List Int) := match d with
  | .list ds => ints? ds
  | .tuple ds => ints? ds
  | _ => none
def ssetD (d : D) : Option Rs := (setI d).bind fun ns => if ns.length + 1 < 4096 then some (.own ((sortU ns).map .int)) else none
theorem seq_ints {K : Fg} {H F : Hp} {d : D} {x : V} {ns : List Int} (hF : Le F H) (hd : RdD K H F d x) (h : setI d = some ns) : ∃ (a : Addr) (c : Bool), x = .ref a ∧ SqC K H c a (ns.map V.int) := by
  cases d with
  | list ds =>
    have e := ints?_eq (show ints? ds = some ns from h)
    subst e
    obtain ⟨a, vs, rfl, ha, r⟩ := hd.list hF
    rw [r.ints] at ha
    exact ⟨a, false, rfl, .inl (.inl ha)⟩
  | tuple ds =>
    have e := ints?_eq (show ints? ds = some ns from h)
    subst e
    obtain ⟨a, vs, rfl, ha, r⟩ := hd.tuple hF
    rw [r.ints] at ha
    exact ⟨a, true, rfl, ha⟩
  | _ => cases h
section
variable {X : Cx} {S : Type} [StK S] {a : Expr} {ta : OW S} {k : Nat} {p p2 q pos : Pos}
theorem ce_sortedSet (O : XO X k) (hm : X.mg "sorted" = none) (hm2 : X.mg "set" = none) (ha : CO X a ta) (hg : Gl X "sorted" := by rfl) (hg2 : Gl X "set" := by rfl)
    (na : starEach [a] X.env = (false, eval a X.env) :: starEach [] X.env := by rfl) : CE (S := S) X (.Call (.Name "sorted" p) [.Call (.Name "set" p2) [a] [] q] [] pos) (dUn ssetD ta) := by
  refine ⟨fun pins s σ H Q I h => ?_⟩
  have h' := un_step h
  refine Call_ (ld_blt I hg hm b_sorted ?_)
  refine PyProof.Rows.callWith_builtin1 (PyProof.Rows.args_cons ?_ rfl) rfl rfl
  refine Call_ (ld_blt I hg2 hm2 PyProof.Rows.boot_set ?_)
  refine PyProof.Rows.callWith_type1 (PyProof.Rows.args_cons (thn (ha.run pins s σ H _ I h') fun v s1 ⟨x, H1, I1, r1, q1⟩ => PyProof.Rows.args_nil ?_) na) na rfl
  obtain ⟨F, d, r, ⟨hz, hF⟩, hd, hg, qq⟩ := q1
  obtain ⟨ns, e1, e2⟩ := Option.bind_eq_some_iff.mp hg
  obtain ⟨hlen, rfl⟩ := some_ite e2
  obtain ⟨l, c, rfl, hq⟩ := seq_ints hF hd e1
  cases r1
  obtain ⟨its, rv, st, hl⟩ := seqC I1 hq
  have hi : IntsAre its.toArray.toList ns := by simpa using rv.ints
  refine call_set_seq (I1.ok.hd O.calm) st (fun A' _ _ => loop_ints hi hlen) fun h' tk ⟨n, hn, hS⟩ hk => ?_
  refine PyProof.Rows.args_nil ?_
  have I2 : Inv X pins σ H1 { s1 with heap := h', toks := tk } := I1.kept hk
  refine sorted_setI (s := { s1 with heap := h', toks := tk }) hS (I2.ok.hd O.calm) fun s' p out c ns' k1 g1 o1 hz1 hob hints hup hmem => ?_
  have hu : ns' = sortU ns := up_uniq hup (sortU_up ns) fun k => by rw [hmem k, sortU_mem]; simp
  subst hu
  obtain ⟨h2, g2, d2, t2, os2⟩ := s'
  have eg : g2 = s1.gens := g1
  have eo : os2 = s1.os := o1
  subst eg; subst eo
  have hp : H1 p = none := I2.hok.fresh hz1
  have hl2 : ((sortU ns).map V.int).length ≤ sizeLine := by
    have := sortU_len ns
    rw [List.length_map, sizeLine_eq]
    omega
  have I3 : Inv X pins σ (upd H1 p (.lst ((sortU ns).map V.int))) ⟨h2, s1.gens, d2, t2, s1.os⟩ := Inv.call (s := { s1 with heap := h', toks := tk }) (h' := h2) (ch := []) I2 (Un.laid k1 hz1 hp) (I2.hok.laid (o := .lst ((sortU ns).map V.int)) k1 hz1 ⟨hl2, out.toList, c, vals_of_ints hints, by simpa using hob⟩) I2.bare (fun _ z => nomatch z)
  exact ⟨.ref p, _, I3, rfl, qq _ _ (DRs.of_ints _) hl2 hp⟩
end
end Dk
set_option Elab.async false
set_option linter.all false
set_option maxRecDepth 100000
set_option maxHeartbeats 2000000
/-! Ds2: readings of sets. -/
namespace Dk
open PySem PySem.Spec PyProof.Rows L2
@[simp↓] theorem g_sset {ns : List Int} {k : Rs → Prop} : gets (ssetD (.list (ns.map .int))) k = (ns.length + 1 < 4096 ∧ k (.own ((sortU ns).map .int))) := by
  show gets ((ints? (ns.map .int)).bind _) k = _
  rw [ints?_map]
  exact g_ite
end Dk
set_option Elab.async false
set_option linter.all false
set_option maxRecDepth 100000
set_option maxHeartbeats 2000000
/-! Ds3: len(set(xs)), xs a list or a tuple of tuples of ints. -/
namespace Dk
open PySem PySem.Spec PyProof.Rows L2
/-! ### each once -/
def uniqL {α : Type} [DecidableEq α] : List α → List α
  | [] => []
  | x :: l => if x ∈ l then uniqL l else x :: uniqL l
theorem uniqL_mem {α : Type} [DecidableEq α] {k : α} : ∀ {l : List α}, k ∈ uniqL l ↔ k ∈ l
  | [] => by simp [uniqL]
  | x :: l => by
    unfold uniqL
    split
    · rename_i h
      rw [uniqL_mem, List.mem_cons]
      exact ⟨.inr, fun z => z.elim (fun e => by rw [e]; exact h) id⟩
    · rw [List.mem_cons, List.mem_cons, uniqL_mem]
theorem uniqL_nodup {α : Type} [DecidableEq α] : ∀ l : List α, (uniqL l).Nodup
  | [] => List.nodup_nil
  | x :: l => by
    unfold uniqL
    split
    · exact uniqL_nodup l
    · rename_i h
      exact List.nodup_cons.mpr ⟨fun z => h (uniqL_mem.mp z), uniqL_nodup l⟩
theorem nd_len {α : Type} : ∀ {xs ys : List α}, xs.Nodup → (∀ a ∈ xs, a ∈ ys) → xs.length ≤ ys.length
  | [], _, _, _ => Nat.zero_le _
  | a :: xs, ys, h, hs => by
    obtain ⟨h1, h2⟩ := List.nodup_cons.mp h
    obtain ⟨s, t, e⟩ := List.append_of_mem (hs a List.mem_cons_self)
    have ih := nd_len (xs := xs) (ys := s ++ t) h2 fun b hb => by
      have hm := hs b (List.mem_cons_of_mem _ hb)
      rw [e, List.mem_append, List.mem_cons] at hm
      rw [List.mem_append]
      rcases hm with z | z | z
      · exact .inl z
      · exact absurd (z ▸ hb) h1
      · exact .inr z
    rw [e]
    simp only [List.length_append, List.length_cons] at ih ⊢
    omega
theorem same_len {α : Type} {xs ys : List α} (h1 : xs.Nodup) (h2 : ys.Nodup) (h : ∀ a, a ∈ xs ↔ a ∈ ys) : xs.length = ys.length :=
  Nat.le_antisymm (nd_len h1 fun a ha => (h a).mp ha) (nd_len h2 fun a ha => (h a).mpr ha)
/-! ### the loop -/
section
variable {P : Program} {w : World} {A : Around} {E : Value → Shared → Prop} {s : Shared}
theorem loop_tups {A' : Around} {h0 : Heap} {items : Array Value} {ks : List (Addr × List Int)} (hit : items.toList = ks.map fun p => Value.ref p.1) (hk : ∀ p ∈ ks, IsT P w h0 p.2 p.1) (hfew : ks.length < 64) (hu : A'.in1.units < cLine) :
    SetLoop P w A' h0 items fun h' => ∃ L es ep t, SetTR P w h' h0.objs.size L es ep t ∧ Got ks ks.length L := fun I s1 St fp wr R hSf W hst hnew hkeep hwr hR => by
  have hisz : items.size = ks.length := by
    have q := congrArg List.length hit
    rwa [Array.length_toList, List.length_map] at q
  have hn0 : h0.get? h0.objs.size = none := Heap.get?_none_of_le (Nat.le_refl _)
  refine set_update_tups W h0.objs.size hSf ks hisz hfew (fun i v hv => ?_) h0 hk hn0 hwr hu (items.size - 0) 0 s1 (by omega) (Nat.zero_le _) hst hkeep ⟨[], #[], 0, _, setTR_fresh hnew, Got.zero ks⟩ fun s' L es ep t hm hS g hkp => hR s' hm ⟨L, es, ep, t, hS, by rw [← hisz]; exact g⟩
  have hi : i < ks.length := by rw [← hisz]; exact (Array.getElem?_eq_some_iff.mp hv).1
  have e := congrArg (fun l => l[i]?) hit
  simp only [Array.getElem?_toList, List.getElem?_map] at e
  rw [hv, List.getElem?_eq_getElem hi] at e
  exact ⟨ks[i], List.getElem?_eq_getElem hi, Option.some.inj e⟩
end
/-! ### the data -/
def tups? : List D → Option (List (List Int))
  | [] => some []
  | .tuple ds :: r => (ints? ds).bind fun ns => (tups? r).map (ns :: ·)
  | _ :: _ => none
theorem tups?_map : ∀ nss : List (List Int), tups? (nss.map fun ns => .tuple (ns.map .int)) = some nss
  | [] => rfl
  | ns :: r => by
    show (ints? (ns.map .int)).bind _ = _
    rw [ints?_map, Option.bind_some, tups?_map r]
    rfl
theorem tups?_eq : ∀ {ds : List D} {nss : List (List Int)}, tups? ds = some nss → ds = nss.map fun ns => .tuple (ns.map .int)
  | [], nss, h => by cases h; rfl
  | .tuple ds :: r, nss, h => by
    obtain ⟨ns, h1, h2⟩ := Option.bind_eq_some_iff.mp (show (ints? ds).bind (fun ns => (tups? r).map (ns :: ·)) = some nss from h)
    obtain ⟨r', h3, rfl⟩ := Option.map_eq_some_iff.mp h2
    rw [List.map_cons, ← tups?_eq h3, ints?_eq h1]
  | .none :: _, _, h => nomatch h
  | .bool _ :: _, _, h => nomatch h
  | .int _ :: _, _, h => nomatch h
  | .str _ :: _, _, h => nomatch h
  | .list _ :: _, _, h => nomatch h
  | .dict _ :: _, _, h => nomatch h
def setT (d : D) : Option (List (List Int)) := match d with
  | .list ds => tups? ds
  | .tuple ds => tups? ds
  | _ => none
def lsetD (d : D) : Option Rs := (setT d).bind fun nss => if nss.length < 64 then some (.val (.int (uniqL nss).length)) else none
theorem tups_read {K : Fg} {F : Hp} : ∀ {nss : List (List Int)} {vs : List V}, DRs K F (nss.map fun ns => .tuple (ns.map .int)) vs → ∃ ks : List (Addr × List Int), vs = ks.map (fun p => V.ref p.1) ∧ ks.map (·.2) = nss ∧ ∀ p ∈ ks, SqT K F p.1 (p.2.map V.int)
  | [], vs, h => ⟨[], by rw [DRs.nil_.mp h]; rfl, rfl, fun p hp => by cases hp⟩
  | ns :: r, vs, h => by
    obtain ⟨v, vr, rfl, h1, h2⟩ := DRs.cons_.mp h
    obtain ⟨a, us, rfl, q1, q2⟩ := DR.tuple_.mp h1
    rw [q2.ints] at q1
    obtain ⟨ks, rfl, e, hk⟩ := tups_read h2
    exact ⟨(a, ns) :: ks, rfl, by rw [List.map_cons, e], fun p hp => by
      rcases List.mem_cons.mp hp with rfl | hp
      · exact q1
      · exact hk p hp⟩
section
variable {X : Cx} {S : Type} [StK S] {a : Expr} {ta : OW S} {k : Nat} {p p2 q pos : Pos}
theorem ce_lenSet (O : XO X k) (hm : X.mg "len" = none) (hm2 : X.mg "set" = none) (ha : CO X a ta) (hg : Gl X "len" := by rfl) (hg2 : Gl X "set" := by rfl)
    (na : starEach [a] X.env = (false, eval a X.env) :: starEach [] X.env := by rfl) : CE (S := S) X (.Call (.Name "len" p) [.Call (.Name "set" p2) [a] [] q] [] pos) (dUn lsetD ta) := by
  refine ⟨fun pins s σ H Q I h => ?_⟩
  have h' := un_step h
  refine Call_ (ld_blt I hg hm PySem.boot_len ?_)
  refine PyProof.Rows.callWith_builtin1 (PyProof.Rows.args_cons ?_ rfl) rfl rfl
  refine Call_ (ld_blt I hg2 hm2 PyProof.Rows.boot_set ?_)
  refine PyProof.Rows.callWith_type1 (PyProof.Rows.args_cons (thn (ha.run pins s σ H _ I h') fun v s1 ⟨x, H1, I1, r1, q1⟩ => PyProof.Rows.args_nil ?_) na) na rfl
  obtain ⟨F, d, r, ⟨hz, hF⟩, hd, hg, qq⟩ := q1
  obtain ⟨nss, e1, e2⟩ := Option.bind_eq_some_iff.mp hg
  obtain ⟨hlen, rfl⟩ := some_ite e2
  have rd : ∃ (l : Addr) (c : Bool) (ks : List (Addr × List Int)), x = .ref l ∧ SqC X.K H1 c l (ks.map fun p => V.ref p.1) ∧ ks.map (·.2) = nss ∧ ∀ p ∈ ks, SqT X.K H1 p.1 (p.2.map V.int) := by
    cases d with
    | list ds =>
      have e := tups?_eq (show tups? ds = some nss from e1)
      subst e
      obtain ⟨l, vs, rfl, hl, dr⟩ := hd.list hF
      obtain ⟨ks, rfl, e, hk⟩ := tups_read dr
      exact ⟨l, false, ks, rfl, .inl (.inl hl), e, fun p hp => hF.t (hk p hp)⟩
    | tuple ds =>
      have e := tups?_eq (show tups? ds = some nss from e1)
      subst e
      obtain ⟨l, vs, rfl, hl, dr⟩ := hd.tuple hF
      obtain ⟨ks, rfl, e, hk⟩ := tups_read dr
      exact ⟨l, true, ks, rfl, hl, e, fun p hp => hF.t (hk p hp)⟩
    | _ => cases e1
  obtain ⟨l, c, ks, rfl, hq, ek, hk⟩ := rd
  cases r1
  obtain ⟨its, rv, st, hl⟩ := seqC I1 hq
  have hit : its.toArray.toList = ks.map fun p => Value.ref p.1 := by simpa using refs_of_vals rv
  have hkl : ks.length = nss.length := by rw [← ek, List.length_map]
  have hun := O.room.un
  refine call_set_seq (I1.ok.hd O.calm) st (fun A' _ hA => loop_tups hit (fun p hp => I1.isT (hk p hp)) (by omega) (by simp; omega)) fun h' tk ⟨L, es, ep, t, R, g⟩ hkp => ?_
  refine PyProof.Rows.args_nil ?_
  have I2 : Inv X pins σ H1 { s1 with heap := h', toks := tk } := I1.kept hkp
  obtain ⟨o, ho, hex, hd2⟩ := R.ob
  have hLn : es.size = (uniqL nss).length := by
    have e0 : es.size = L.length := SetTR.size (s := { s1 with heap := h', toks := tk }) R
    rw [e0, ← List.length_map (f := (·.2)) (as := L)]
    refine same_len R.nd (uniqL_nodup nss) fun z => ?_
    rw [uniqL_mem, ← ek]
    constructor
    · intro hz
      obtain ⟨p, hp, rfl⟩ := List.mem_map.mp hz
      exact List.mem_map.mpr ⟨p, List.mem_of_mem_take (g.sub p hp), rfl⟩
    · intro hz
      obtain ⟨p, hp, rfl⟩ := List.mem_map.mp hz
      exact g.all p (by rw [List.take_length]; exact hp)
  have hfit := SetTR.fits (s := { s1 with heap := h', toks := tk }) R
  have hul : (uniqL nss).length ≤ nss.length := nd_len (uniqL_nodup nss) fun a ha => uniqL_mem.mp ha
  have hz : sizeLine = 16777216 := sizeLine_eq
  refine call_len_set ho hex hd2 hfit (by rw [hLn]; omega) ?_
  exact ⟨.int es.size, H1, I2.tok _, ⟨_, rfl⟩, by rw [hLn]; exact qq.1 _ (DR.int_.mpr rfl)⟩
end
@[simp↓] theorem g_lset {nss : List (List Int)} {k : Rs → Prop} : gets (lsetD (.tuple (nss.map fun ns => .tuple (ns.map .int)))) k = (nss.length < 64 ∧ k (.val (.int (uniqL nss).length))) := by
  show gets ((tups? _).bind _) k = _
  rw [tups?_map]
  exact g_ite
end Dk
set_option Elab.async false
set_option linter.all false
set_option maxRecDepth 100000
set_option maxHeartbeats 2000000
/-! Ds4: sorted of a tuple of alike data. -/
namespace Dk
open PySem PySem.Spec PyProof.Rows L2 PySem.Calls
section
variable {P : Program} {w : World} {A : Around} {E : Value → Shared → Prop} {s : Shared}
abbrev nilL : Obj := { cls := .type "list", data := .seq #[] 0 }
abbrev gotL (h : Heap) (xs : Array Value) : Heap := (h.push nilL).update h.objs.size (Obj.mapSeq (· ++ xs))
theorem gotL_at (h : Heap) (xs : Array Value) : ∃ c, (gotL h xs).get? h.objs.size = some { cls := .type "list", data := .seq xs c } := by
  have h1 : (h.push nilL).get? h.objs.size = some nilL := Heap.get?_push_size _ rfl
  have e : (#[] : Array Value) ++ xs = xs := by simp
  have h2 := get?_update_seq (h := h.push nilL) (a := h.objs.size) h1 (· ++ xs)
  rw [e] at h2
  exact ⟨_, h2⟩
theorem gotL_old {h : Heap} {xs : Array Value} {b : Addr} {u : Obj} (e : h.get? b = some u) : (gotL h xs).get? b = some u :=
  (Heap.get?_update_other _ _ (Nat.ne_of_gt (Heap.lt_size e))).trans (Heap.get?_push_of_some _ e)
theorem gotL_size (h : Heap) (xs : Array Value) : (gotL h xs).objs.size = h.objs.size + 1 := by
  show ((h.push nilL).update h.objs.size _).objs.size = _
  rw [Heap.size_update, Heap.size_push]
/-- the items of a tuple, gathered in a new list -/
theorem gather {l : Addr} {o : Obj} {xs : Array Value} {n : Nat} {Q : List Value → Shared → Prop} (ho : s.heap.get? l = some o) (hc : o.cls = .type "tuple") (hd : o.data = .seq xs n) (hz : xs.size ≤ sizeLine) (hQ : Q xs.toList { s with heap := gotL s.heap xs }) :
    wpAny (model P w) A (collect (.ref l)) Q E s := by
  have hN : (s.heap.push nilL).get? s.heap.objs.size = some nilL := Heap.get?_push_size _ rfl
  have tail : wpAny (model P w) A (match Value.ref s.heap.objs.size with
      | Value.ref a => do
        match (← load a).data with
          | Data.seq ys _ => pure ys.toList
          | _ => unsupported "internal:collect"
      | _ => unsupported "internal:collect") Q E { s with heap := gotL s.heap xs } := by
    obtain ⟨c, hg⟩ := gotL_at s.heap xs
    show wpAny _ A (load s.heap.objs.size >>= _) _ _ _
    exact wpAny_bind (wpAny_load hg (wpAny_pure hQ))
  unfold collect
  refine wpAny_bind (wpAny_runValue (codeAny_builtin PySem.F.entry_proto_collect ?_))
  rw [Around.under_plainId PySem.F.plain_proto_collect _]
  show wpAny _ A.in1 (newList [] >>= fun m => again (.builtin "list.__iadd__" ⟨[m, .ref l], []⟩)) _ _ s
  refine wpAny_bind (wpAny_newObj_type (wpAny_pure ⟨plainId_quiet PySem.F.plain_list_iadd _, codeAny_builtin PySem.F.entry_list_iadd ?_⟩))
  rw [Around.under_plainId PySem.F.plain_list_iadd _]
  refine wpAny_mono (wpAny_extend_seq (A := A) (hsz := hz) (R := fun r s' => r = .ok (.ret (.ref s.heap.objs.size)) ∧ s' = { s with heap := gotL s.heap xs }) (s := { s with heap := s.heap.push nilL }) _ l _ 0 (.inr rfl) hN (Heap.get?_push_of_some _ ho) hc hd ⟨rfl, rfl⟩) (fun fin s' hf => ?_) fun e s' hf => absurd hf.1 (by simp)
  cases fin with
  | done f =>
    obtain ⟨e, rfl⟩ := hf
    cases e
    exact tail
  | again c' => exact ⟨hf.1, codeAny_mono hf.2 fun r s'' hr => by obtain ⟨rfl, rfl⟩ := hr; exact tail⟩
variable {β : Type} {bs : List β} {R : Value → β → Prop} {enc : β → PyData}
theorem sorted_dataT {l : Addr} {vs : List Value} {n : Nat} {o : Obj} {Q : Value → Shared → Prop} (ho : s.heap.get? l = some o) (hc : o.cls = .type "tuple") (hd : o.data = .seq vs.toArray n) (e : PySem.W.EachIs R vs bs) (er : PySem.W.EachIs (fun v b => ∃ as, Reads s.heap v (enc b) as) vs bs)
    (hal : PySem.W.AllAlike (bs.map enc)) (hk : PySem.W.Sortable (bs.map enc)) (hL : bs.length ≤ sizeLine) (hu : ∀ b, b ∈ bs → A.units + 2 + (enc b).depth < cLine)
    (h : ∀ (h' : Heap) (p : Addr) (out : List Value) (c : Nat), (∀ b u, s.heap.get? b = some u → h'.get? b = some u) → s.heap.objs.size ≤ p → h'.get? p = some (seqObj "list" (List.toArray out) c) → out.length = bs.length → PySem.W.EachIs R out (bs.mergeSort (PySem.W.dataLe false enc)) → Q (.ref p) { s with heap := h' }) :
    wpAny (model P w) A (call (.builtin "sorted") [.ref l]) Q E s := by
  have hvl := e.length
  refine Calls.call_function_entry kind_sorted plain_sorted entry_sorted (args_sorted1 _) ?_
  unfold Builtin.«sorted»
  refine wpAny_bind (m := checkCount "sorted" 1 1 _) (wpAny_pure ?_)
  refine wpAny_bind (gather ho hc hd (by simp; omega) ?_)
  generalize hh : gotL s.heap vs.toArray = h1
  have k1 : ∀ b u, s.heap.get? b = some u → h1.get? b = some u := fun b u q => by rw [← hh]; exact gotL_old q
  have z1 : h1.objs.size = s.heap.objs.size + 1 := by rw [← hh]; exact gotL_size _ _
  have hoL : (h1.push (seqObj "list" vs.toArray 0)).get? h1.objs.size = some (seqObj "list" vs.toArray 0) := Heap.get?_push_size _ rfl
  refine wpAny_bind (wpAny_newList ?_ (by simp; omega))
  have old : ∀ b u, s.heap.get? b = some u → (PySem.W.sortingHeap (h1.push (seqObj "list" vs.toArray 0)) h1.objs.size vs).get? b = some u := fun b u q => by
    have q1 := k1 b u q
    exact PySem.W.sortingHeap_old (Nat.ne_of_lt (Heap.lt_size q1)) (Heap.get?_push_of_some _ q1)
  have er' : PySem.W.EachIs (fun v b => ∃ as, Reads (PySem.W.sortingHeap (h1.push (seqObj "list" vs.toArray 0)) h1.objs.size vs) v (enc b) as) vs bs := er.mono fun _ _ ⟨as, r⟩ => ⟨as, PyProof.Rows.Reads.keeps old r⟩
  refine wpAny_bind (wpAny_holding (wpAny_call_entry slot_list_sort ⟨_, hoL, rfl⟩ entry_list_sort (PySem.W.list_sort_vals (κ := PySem.W.dataKind (PySem.W.sortingHeap (h1.push (seqObj "list" vs.toArray 0)) h1.objs.size vs) (bs.map enc)) (s := { s with heap := h1.push (seqObj "list" vs.toArray 0) }) hoL
    (PySem.W.SortsAt.data (s := { s with heap := PySem.W.sortingHeap (h1.push (seqObj "list" vs.toArray 0)) h1.objs.size vs }) (PySem.W.each_map (R := fun v d => ∃ as, Reads (PySem.W.sortingHeap (h1.push (seqObj "list" vs.toArray 0)) h1.objs.size vs) v d as) enc er') hal hk (PySem.W.bound_map hu)) (by omega) ⟨_, rfl, ?_⟩) (args_list_sort _)))
  obtain ⟨c, hcs⟩ := sortedHeap_at (vs := vs) (out := (PySem.W.sortVals (PySem.W.dataKind (PySem.W.sortingHeap (h1.push (seqObj "list" vs.toArray 0)) h1.objs.size vs) (bs.map enc)) false vs vs).toArray) hoL
  refine wpAny_pure ⟨_, rfl, h _ h1.objs.size _ c (fun b u q => ?_) (by omega) hcs (by rw [PySem.W.sortVals_length false rfl]; exact hvl) (PySem.W.sortVals_data false e er' hal)⟩
  have q1 := k1 b u q
  rw [sortedHeap_old (Nat.ne_of_lt (Heap.lt_size q1)) (by rw [Heap.size_push]; exact Nat.lt_succ_of_lt (Heap.lt_size q1))]
  exact Heap.get?_push_of_some _ q1
end
open Classical in
noncomputable def sortedZ : List D → Option Rs
  | [.list ds] => if sortOk ds then some (.own (sortD ds)) else none
  | [.tuple ds] => if sortOk ds then some (.own (sortD ds)) else none
  | _ => none
open Classical in
@[simp↓] theorem g_sortZL {xs : List D} {k : Rs → Prop} : gets (sortedZ [.list xs]) k = (sortOk xs ∧ k (.own (sortD xs))) := by unfold sortedZ; exact g_ite
open Classical in
@[simp↓] theorem g_sortZT {xs : List D} {k : Rs → Prop} : gets (sortedZ [.tuple xs]) k = (sortOk xs ∧ k (.own (sortD xs))) := by unfold sortedZ; exact g_ite
open Classical in
theorem cd_sortZ {X : Cx} {k : Nat} (hx : XO X k) : CallD X (.builtin "sorted") sortedZ := by
  intro pins s σ H xs us Q I rv ⟨F, ds, r, ⟨hz0, hF⟩, hd, hg, q⟩
  unfold sortedZ at hg
  split at hg
  · rename_i ds
    exact cd_sorted hx pins s σ H xs us Q I rv ⟨F, _, r, ⟨hz0, hF⟩, hd, by unfold sortedD; exact hg, q⟩
  · obtain ⟨⟨c1, c2, c3⟩, rfl⟩ := some_ite hg
    rename_i ds
    obtain ⟨v, rfl, h⟩ := hd.one
    obtain ⟨a, ws, rfl, ha, ra⟩ := h.tuple hF
    obtain ⟨its, rvs, ⟨ob, hob, hcl, nn, hdt⟩, hz⟩ := I.tuple ha
    rw [Vals.ref1 rv]
    have e := each_zip (K := X.K) (F := F) (R := fun v b => DR X.K F b.1 b.2 ∧ RelV b.2 v) (fun v d w h1 h2 => ⟨h1, h2⟩) ra rvs
    have er := each_zip (K := X.K) (F := F) (R := fun v b => ∃ as, Reads s.heap v (Prod.fst b) as) (fun v d w h1 h2 => by
      obtain ⟨as, r, _⟩ := DR.reads I hF d w v h1 h2
      exact ⟨as, r⟩) ra rvs
    have ef := zip_fst ra
    have hlen : (ds.zip ws).length = ds.length := by rw [← List.length_map (f := Prod.fst), ef]
    have hun := hx.room.un
    have hwl : ws.length ≤ sizeLine := by have := rvs.length; simp at *; omega
    refine sorted_dataT (enc := Prod.fst) hob hcl hdt e er (by rw [ef]; exact c1) (by rw [ef]; exact c2) (by rw [hlen, ← ra.len]; exact hwl) (fun b hb => ?_) fun h' p out c hk hp hat hol eo => ?_
    · have := c3 b.1 (by rw [← ef]; exact List.mem_map.mpr ⟨b, hb, rfl⟩)
      omega
    · obtain ⟨k1, k2⟩ := each_back eo
      have em : ((ds.zip ws).mergeSort (PySem.W.dataLe false Prod.fst)).map Prod.fst = sortD ds := by
        unfold sortD
        have e9 := List.map_mergeSort (r := PySem.W.dataLe false Prod.fst) (s := leD0) (f := Prod.fst) (l := ds.zip ws) (fun a _ b _ => rfl)
        rw [e9, ef]
      rw [em] at k1
      have hl2 : (((ds.zip ws).mergeSort (PySem.W.dataLe false Prod.fst)).map Prod.snd).length ≤ sizeLine := by
        rw [List.length_map, List.length_mergeSort, hlen, ← ra.len]; exact hwl
      exact ⟨.ref p, upd H p (.lst (((ds.zip ws).mergeSort (PySem.W.dataLe false Prod.fst)).map Prod.snd)), I.laid (t' := s.toks) hk hp ⟨hl2, out, c, k2, hat⟩, rfl, q _ _ k1 hl2 (I.hok.fresh hp)⟩
  · cases hg
/-! ### rows of ints -/
theorem rows_ok {rs : List (List Int)} {n : Nat} (h : ∀ r ∈ rs, r.length = n) (hn : 1 ≤ n) : sortOk (rs.map fun r => .tuple (r.map .int)) := by
  refine ⟨fun d hd e he => ?_, .inl fun d hd => ?_, fun d hd => ?_⟩
  · obtain ⟨x, hx, rfl⟩ := List.mem_map.mp hd
    obtain ⟨y, hy, rfl⟩ := List.mem_map.mp he
    show PySem.W.alikeAll _ _ = true
    exact PySem.W.alike_ints x y
  · obtain ⟨x, hx, rfl⟩ := List.mem_map.mp hd
    have := h x hx
    cases x with
    | nil => simp at this; omega
    | cons a r => exact ⟨_, _, rfl⟩
  · obtain ⟨x, hx, rfl⟩ := List.mem_map.mp hd
    have : (PyData.tuple (x.map .int)).depth ≤ 1 := depth_tupI (ns := x)
    omega
end Dk
set_option Elab.async false
set_option linter.all false
set_option maxRecDepth 100000
set_option maxHeartbeats 2000000
namespace K82
open PySem PySem.Spec PyProof.Rows L2 Dk
def top (i : Nat) : Stmt := PySem.Challenge.pw_priceplans_k82_schemes_and_databases_rec.main.body.getD i (.Pass ⟨0, 0, 0, 0⟩)
/-! ### is_integer: 0 value, 1 low, 2 high -/
abbrev S_is_integer : Stmt := top 1
abbrev P_is_integer : List Str := ["value", "low", "high"]
abbrev N_is_integer : List Str := ["value", "low", "high"]
theorem sc_is_integer : FnScope N_is_integer P_is_integer (defScope S_is_integer) := ⟨rfl, rfl, rfl, by decide +kernel, rfl, by decide +kernel, by decide +kernel⟩
theorem bd_is_integer {K : Fg} {mg : Str → Option Value} {f : Addr} {fd : FuncData} (D : Dfn K mg "is_integer" S_is_integer f fd) : Binds K fd P_is_integer [] := D.F.bindsN fun _ _ _ _ _ _ us hl => match us, hl with | [_, _, _], _ => rfl
def t_is_integer : DS :=
    (dRet (dAndV (dIsi .int (oSlot 0)) (dAndV (dNotV (dIsi .bool (oSlot 0))) (dChain leD leD (oSlot 1) (oSlot 0) (oSlot 2)))))
theorem ok_is_integer {P : Program} {w : World} {K : Fg} {mg : Str → Option Value} {base : Heap} {k : Nat} {f_is_integer : Addr} {fd_is_integer : FuncData}    {dsp : DSp}
    (B : Blt mg) (D_is_integer : Dfn K mg "is_integer" S_is_integer f_is_integer fd_is_integer)      
    (hlaw : ∀ as pn Q, as.length = 3 → dsp as pn Q → t_is_integer { nx := fun ρ => Q .none ρ.pn, rt := Q } ⟨startD 3 as, pn⟩) : FnD P w K mg base (k + 1) f_is_integer fd_is_integer P_is_integer dsp :=
  FnD.mkD D_is_integer sc_is_integer (fun cdv A outer s H E O => (css_one (cs_ret (ce_and (ce_isi .int (co_slot 0) (B.get "isinstance") (B.get "int")) (ce_and (ce_not (ce_isi .bool (co_slot 0) (B.get "isinstance") (B.get "bool"))) (ce_one (ce_chain od_le od_le (co_slot 1) (co_slot 0) (co_slot 2)))))))) hlaw
/-! ### is_scheme: 0 value, 1 columns -/
abbrev S_is_scheme : Stmt := top 7
abbrev P_is_scheme : List Str := ["value"]
abbrev N_is_scheme : List Str := ["value", "columns"]
theorem sc_is_scheme : FnScope N_is_scheme P_is_scheme (defScope S_is_scheme) := ⟨rfl, rfl, rfl, by decide +kernel, rfl, by decide +kernel, by decide +kernel⟩
theorem bd_is_scheme {K : Fg} {mg : Str → Option Value} {f : Addr} {fd : FuncData} (D : Dfn K mg "is_scheme" S_is_scheme f fd) : Binds K fd P_is_scheme [] := D.F.bindsN fun _ _ _ _ _ _ us hl => match us, hl with | [_], _ => rfl
def t_is_scheme (s_is_integer : DSp) : DS :=
    (sCons (dIfS (dOr (dNot (dTst (tmpD (dIsi .tuple (oSlot 0))))) (dNot (dTst (tmpD (dChain leD leD (tmpD (dC (.int 1))) (tmpD (dCB lenD (aCons (oSlot 0) aNil))) (tmpD (dC (.int 4)))))))) (dRet (dC (.bool false))) sNil)
    (dRet (dCB allD (aCons (tmpD (dLc (iSeq (oSlot 0)) (gN 1) dYes (oVal (dCall 3 s_is_integer (aCons (oSlot 1) (aCons (oVal (dC (.int 1))) (aCons (tmpD (dC (.int 3))) aNil))))) [1])) aNil))))
theorem ok_is_scheme {P : Program} {w : World} {K : Fg} {mg : Str → Option Value} {base : Heap} {k : Nat} {f_is_scheme : Addr} {fd_is_scheme : FuncData}  {f_is_integer : Addr} {fd_is_integer : FuncData} {s_is_integer : DSp} {dsp : DSp}
    (B : Blt mg) (D_is_scheme : Dfn K mg "is_scheme" S_is_scheme f_is_scheme fd_is_scheme)  (C_MOST_TABLES : ∃ t, mg "MOST_TABLES" = some (Value.int (4) t)) (C_MOST_COLUMNS : ∃ t, mg "MOST_COLUMNS" = some (Value.int (3) t)) (D_is_integer : Dfn K mg "is_integer" S_is_integer f_is_integer fd_is_integer)  (F_is_integer : FnD P w K mg base k f_is_integer fd_is_integer P_is_integer s_is_integer) 
    (hlaw : ∀ as pn Q, as.length = 1 → dsp as pn Q → t_is_scheme s_is_integer { nx := fun ρ => Q .none ρ.pn, rt := Q } ⟨startD 2 as, pn⟩) : FnD P w K mg base (k + 1) f_is_scheme fd_is_scheme P_is_scheme dsp :=
  FnD.mkD D_is_scheme sc_is_scheme (fun cdv A outer s H E O => (css_cons (cs_if (ct_w (cw_or (ct_not (ct_val (ce_isi .tuple (co_slot 0) (B.get "isinstance") (B.get "tuple")))) (cw_or1 (ct_not (ct_chain od_le od_le ce_int (ce_callB cd_len (B.get "len") b_len (ca_cons (co_slot 0) ca_nil)) (ce_globI C_MOST_TABLES)))))) (css_one (cs_ret ce_bl)) css_nil)
    (css_one (cs_ret (ce_callB (cd_all O) (B.get "all") b_all (ca_cons (ce_lc [(("columns" : Str), 1)] O (ci_seq (co_slot 0)) (fun _ _ _ _ _ => (cg_n 1 O.blk.nd)) (fun _ _ _ _ _ => cts_nil) (fun _ _ _ _ _ => (co_val (ce_call F_is_integer O.blk D_is_integer.m D_is_integer.F.kp (bd_is_integer D_is_integer) (ca_cons (co_slot 1) (ca_cons (co_val ce_int) (ca_cons (ce_globI C_MOST_COLUMNS) ca_nil))))))) ca_nil)))))) hlaw
/-! ### is_row: 0 columns, 1 value, 2 one -/
abbrev S_is_row : Stmt := top 8
abbrev P_is_row : List Str := ["columns", "value"]
abbrev N_is_row : List Str := ["columns", "value", "one"]
theorem sc_is_row : FnScope N_is_row P_is_row (defScope S_is_row) := ⟨rfl, rfl, rfl, by decide +kernel, rfl, by decide +kernel, by decide +kernel⟩
theorem bd_is_row {K : Fg} {mg : Str → Option Value} {f : Addr} {fd : FuncData} (D : Dfn K mg "is_row" S_is_row f fd) : Binds K fd P_is_row [] := D.F.bindsN fun _ _ _ _ _ _ us hl => match us, hl with | [_, _], _ => rfl
def t_is_row (s_is_integer : DSp) : DS :=
    (sCons (dIfS (dOr (dNot (dTst (tmpD (dIsi .tuple (oSlot 1))))) (dTst (tmpD (dBin neD (tmpD (dCB lenD (aCons (oSlot 1) aNil))) (oSlot 0))))) (dRet (dC (.bool false))) sNil)
    (dRet (dCB allD (aCons (tmpD (dLc (iSeq (oSlot 1)) (gN 2) dYes (oVal (dCall 3 s_is_integer (aCons (oSlot 2) (aCons (oVal (dC (.int 0))) (aCons (tmpD (dC (.int 99))) aNil))))) [2])) aNil))))
theorem ok_is_row {P : Program} {w : World} {K : Fg} {mg : Str → Option Value} {base : Heap} {k : Nat} {f_is_row : Addr} {fd_is_row : FuncData}  {f_is_integer : Addr} {fd_is_integer : FuncData} {s_is_integer : DSp} {dsp : DSp}
    (B : Blt mg) (D_is_row : Dfn K mg "is_row" S_is_row f_is_row fd_is_row)  (C_MOST_VALUE : ∃ t, mg "MOST_VALUE" = some (Value.int (99) t)) (D_is_integer : Dfn K mg "is_integer" S_is_integer f_is_integer fd_is_integer)  (F_is_integer : FnD P w K mg base k f_is_integer fd_is_integer P_is_integer s_is_integer) 
    (hlaw : ∀ as pn Q, as.length = 2 → dsp as pn Q → t_is_row s_is_integer { nx := fun ρ => Q .none ρ.pn, rt := Q } ⟨startD 3 as, pn⟩) : FnD P w K mg base (k + 1) f_is_row fd_is_row P_is_row dsp :=
  FnD.mkD D_is_row sc_is_row (fun cdv A outer s H E O => (css_cons (cs_if (ct_w (cw_or (ct_not (ct_val (ce_isi .tuple (co_slot 1) (B.get "isinstance") (B.get "tuple")))) (cw_or1 (ct_cmp (od_ne O) (ce_callB cd_len (B.get "len") b_len (ca_cons (co_slot 1) ca_nil)) (co_slot 0))))) (css_one (cs_ret ce_bl)) css_nil)
    (css_one (cs_ret (ce_callB (cd_all O) (B.get "all") b_all (ca_cons (ce_lc [(("one" : Str), 2)] O (ci_seq (co_slot 1)) (fun _ _ _ _ _ => (cg_n 2 O.blk.nd)) (fun _ _ _ _ _ => cts_nil) (fun _ _ _ _ _ => (co_val (ce_call F_is_integer O.blk D_is_integer.m D_is_integer.F.kp (bd_is_integer D_is_integer) (ca_cons (co_slot 2) (ca_cons (co_val ce_int) (ca_cons (ce_globI C_MOST_VALUE) ca_nil))))))) ca_nil)))))) hlaw
/-! ### are_rows: 0 columns, 1 value, 2 row -/
abbrev S_are_rows : Stmt := top 9
abbrev P_are_rows : List Str := ["columns", "value"]
abbrev N_are_rows : List Str := ["columns", "value", "row"]
theorem sc_are_rows : FnScope N_are_rows P_are_rows (defScope S_are_rows) := ⟨rfl, rfl, rfl, by decide +kernel, rfl, by decide +kernel, by decide +kernel⟩
theorem bd_are_rows {K : Fg} {mg : Str → Option Value} {f : Addr} {fd : FuncData} (D : Dfn K mg "are_rows" S_are_rows f fd) : Binds K fd P_are_rows [] := D.F.bindsN fun _ _ _ _ _ _ us hl => match us, hl with | [_, _], _ => rfl
def t_are_rows (s_is_row : DSp) : DS :=
    (sCons (dIfS (dOr (dNot (dTst (tmpD (dIsi .tuple (oSlot 1))))) (dTst (tmpD (dBin gtD (tmpD (dCB lenD (aCons (oSlot 1) aNil))) (tmpD (dC (.int 10))))))) (dRet (dC (.bool false))) sNil)
    (dRet (dAndV (dCB allD (aCons (tmpD (dLc (iSeq (oSlot 1)) (gN 2) dYes (oVal (dCall 2 s_is_row (aCons (oSlot 0) (aCons (oSlot 2) aNil)))) [2])) aNil)) (dBin eqD (tmpD (dCB listD (aCons (oSlot 1) aNil))) (tmpD (dCB sortedZ (aCons (oSlot 1) aNil)))))))
theorem ok_are_rows {P : Program} {w : World} {K : Fg} {mg : Str → Option Value} {base : Heap} {k : Nat} {f_are_rows : Addr} {fd_are_rows : FuncData}  {f_is_row : Addr} {fd_is_row : FuncData} {s_is_row : DSp} {dsp : DSp}
    (B : Blt mg) (D_are_rows : Dfn K mg "are_rows" S_are_rows f_are_rows fd_are_rows)  (C_MOST_ROWS : ∃ t, mg "MOST_ROWS" = some (Value.int (10) t)) (D_is_row : Dfn K mg "is_row" S_is_row f_is_row fd_is_row)  (F_is_row : FnD P w K mg base k f_is_row fd_is_row P_is_row s_is_row) 
    (hlaw : ∀ as pn Q, as.length = 2 → dsp as pn Q → t_are_rows s_is_row { nx := fun ρ => Q .none ρ.pn, rt := Q } ⟨startD 3 as, pn⟩) : FnD P w K mg base (k + 1) f_are_rows fd_are_rows P_are_rows dsp :=
  FnD.mkD D_are_rows sc_are_rows (fun cdv A outer s H E O => (css_cons (cs_if (ct_w (cw_or (ct_not (ct_val (ce_isi .tuple (co_slot 1) (B.get "isinstance") (B.get "tuple")))) (cw_or1 (ct_cmp od_gt (ce_callB cd_len (B.get "len") b_len (ca_cons (co_slot 1) ca_nil)) (ce_globI C_MOST_ROWS))))) (css_one (cs_ret ce_bl)) css_nil)
    (css_one (cs_ret (ce_and (ce_callB (cd_all O) (B.get "all") b_all (ca_cons (ce_lc [(("row" : Str), 2)] O (ci_seq (co_slot 1)) (fun _ _ _ _ _ => (cg_n 2 O.blk.nd)) (fun _ _ _ _ _ => cts_nil) (fun _ _ _ _ _ => (co_val (ce_call F_is_row O.blk D_is_row.m D_is_row.F.kp (bd_is_row D_is_row) (ca_cons (co_slot 0) (ca_cons (co_slot 2) ca_nil)))))) ca_nil)) (ce_one (ce_cmp (od_eq O) (ce_callTy cd_list (B.get "list") b_list (ca_cons (co_slot 1) ca_nil)) (ce_callB (cd_sortZ O) (B.get "sorted") b_sorted (ca_cons (co_slot 1) ca_nil))))))))) hlaw
/-! ### is_database: 0 scheme, 1 value, 2 columns, 3 rows -/
abbrev S_is_database : Stmt := top 10
abbrev P_is_database : List Str := ["scheme", "value"]
abbrev N_is_database : List Str := ["scheme", "value", "columns", "rows"]
theorem sc_is_database : FnScope N_is_database P_is_database (defScope S_is_database) := ⟨rfl, rfl, rfl, by decide +kernel, rfl, by decide +kernel, by decide +kernel⟩
theorem bd_is_database {K : Fg} {mg : Str → Option Value} {f : Addr} {fd : FuncData} (D : Dfn K mg "is_database" S_is_database f fd) : Binds K fd P_is_database [] := D.F.bindsN fun _ _ _ _ _ _ us hl => match us, hl with | [_, _], _ => rfl
def t_is_database (s_are_rows : DSp) : DS :=
    (sCons (dIfS (dOr (dNot (dTst (tmpD (dIsi .tuple (oSlot 1))))) (dTst (tmpD (dBin neD (tmpD (dCB lenD (aCons (oSlot 1) aNil))) (tmpD (dCB lenD (aCons (oSlot 0) aNil))))))) (dRet (dC (.bool false))) sNil)
    (dRet (dCB allD (aCons (tmpD (dLc (iZp true (aCons (oSlot 0) (aCons (oSlot 1) aNil))) (gT 2 (gCons (gN 2) (gCons (gN 3) gNil))) dYes (oVal (dCall 2 s_are_rows (aCons (oSlot 2) (aCons (oSlot 3) aNil)))) [2, 3])) aNil))))
theorem ok_is_database {P : Program} {w : World} {K : Fg} {mg : Str → Option Value} {base : Heap} {k : Nat} {f_is_database : Addr} {fd_is_database : FuncData}  {f_are_rows : Addr} {fd_are_rows : FuncData} {s_are_rows : DSp} {dsp : DSp}
    (B : Blt mg) (D_is_database : Dfn K mg "is_database" S_is_database f_is_database fd_is_database)   (D_are_rows : Dfn K mg "are_rows" S_are_rows f_are_rows fd_are_rows)  (F_are_rows : FnD P w K mg base k f_are_rows fd_are_rows P_are_rows s_are_rows) 
    (hlaw : ∀ as pn Q, as.length = 2 → dsp as pn Q → t_is_database s_are_rows { nx := fun ρ => Q .none ρ.pn, rt := Q } ⟨startD 4 as, pn⟩) : FnD P w K mg base (k + 1) f_is_database fd_is_database P_is_database dsp :=
  FnD.mkD D_is_database sc_is_database (fun cdv A outer s H E O => (css_cons (cs_if (ct_w (cw_or (ct_not (ct_val (ce_isi .tuple (co_slot 1) (B.get "isinstance") (B.get "tuple")))) (cw_or1 (ct_cmp (od_ne O) (ce_callB cd_len (B.get "len") b_len (ca_cons (co_slot 1) ca_nil)) (ce_callB cd_len (B.get "len") b_len (ca_cons (co_slot 0) ca_nil)))))) (css_one (cs_ret ce_bl)) css_nil)
    (css_one (cs_ret (ce_callB (cd_all O) (B.get "all") b_all (ca_cons (ce_lc [(("columns" : Str), 2), (("rows" : Str), 3)] O (ci_zipS (B.get "zip") (ca_cons (co_slot 0) (ca_cons (co_slot 1) ca_nil))) (fun _ _ _ _ _ => (cg_t O.blk (cgs_cons (cg_n 2 O.blk.nd) (cgs_cons (cg_n 3 O.blk.nd) cgs_nil)))) (fun _ _ _ _ _ => cts_nil) (fun _ _ _ _ _ => (co_val (ce_call F_are_rows O.blk D_are_rows.m D_are_rows.F.kp (bd_are_rows D_are_rows) (ca_cons (co_slot 2) (ca_cons (co_slot 3) ca_nil)))))) ca_nil)))))) hlaw
/-! ### is_copy: 0 scheme, 1 value -/
abbrev S_is_copy : Stmt := top 11
abbrev P_is_copy : List Str := ["scheme", "value"]
abbrev N_is_copy : List Str := ["scheme", "value"]
theorem sc_is_copy : FnScope N_is_copy P_is_copy (defScope S_is_copy) := ⟨rfl, rfl, rfl, by decide +kernel, rfl, by decide +kernel, by decide +kernel⟩
theorem bd_is_copy {K : Fg} {mg : Str → Option Value} {f : Addr} {fd : FuncData} (D : Dfn K mg "is_copy" S_is_copy f fd) : Binds K fd P_is_copy [] := D.F.bindsN fun _ _ _ _ _ _ us hl => match us, hl with | [_, _], _ => rfl
def t_is_copy (s_is_integer : DSp) : DS :=
    (sCons (dIfS (dOr (dNot (dTst (tmpD (dIsi .tuple (oSlot 1))))) (dOr (dTst (tmpD (dBin neD (tmpD (dCB lenD (aCons (oSlot 1) aNil))) (tmpD (dC (.int 2)))))) (dNot (dTst (tmpD (dCall 3 s_is_integer (aCons (oVal (dBin ixD (oSlot 1) (tmpD (dC (.int 0))))) (aCons (oVal (dC (.int 0))) (aCons (oVal (dBin subD (tmpD (dCB lenD (aCons (oSlot 0) aNil))) (tmpD (dC (.int 1))))) aNil))))))))) (dRet (dC (.bool false))) sNil)
    (dRet (dCall 3 s_is_integer (aCons (oVal (dBin ixD (oSlot 1) (tmpD (dC (.int 1))))) (aCons (oVal (dC (.int 0))) (aCons (oVal (dBin subD (tmpD (dBin ixD (oSlot 0) (tmpD (dBin ixD (oSlot 1) (tmpD (dC (.int 0))))))) (tmpD (dC (.int 1))))) aNil))))))
theorem ok_is_copy {P : Program} {w : World} {K : Fg} {mg : Str → Option Value} {base : Heap} {k : Nat} {f_is_copy : Addr} {fd_is_copy : FuncData}  {f_is_integer : Addr} {fd_is_integer : FuncData} {s_is_integer : DSp} {dsp : DSp}
    (B : Blt mg) (D_is_copy : Dfn K mg "is_copy" S_is_copy f_is_copy fd_is_copy)   (D_is_integer : Dfn K mg "is_integer" S_is_integer f_is_integer fd_is_integer)  (F_is_integer : FnD P w K mg base k f_is_integer fd_is_integer P_is_integer s_is_integer) 
    (hlaw : ∀ as pn Q, as.length = 2 → dsp as pn Q → t_is_copy s_is_integer { nx := fun ρ => Q .none ρ.pn, rt := Q } ⟨startD 2 as, pn⟩) : FnD P w K mg base (k + 1) f_is_copy fd_is_copy P_is_copy dsp :=
  FnD.mkD D_is_copy sc_is_copy (fun cdv A outer s H E O => (css_cons (cs_if (ct_w (cw_or (ct_not (ct_val (ce_isi .tuple (co_slot 1) (B.get "isinstance") (B.get "tuple")))) (cw_or (ct_cmp (od_ne O) (ce_callB cd_len (B.get "len") b_len (ca_cons (co_slot 1) ca_nil)) ce_int) (cw_or1 (ct_not (ct_val (ce_call F_is_integer O D_is_integer.m D_is_integer.F.kp (bd_is_integer D_is_integer) (ca_cons (co_val (ce_sub (co_slot 1) ce_int)) (ca_cons (co_val ce_int) (ca_cons (co_val (ce_bin od_sub (ce_callB cd_len (B.get "len") b_len (ca_cons (co_slot 0) ca_nil)) ce_int)) ca_nil)))))))))) (css_one (cs_ret ce_bl)) css_nil)
    (css_one (cs_ret (ce_call F_is_integer O D_is_integer.m D_is_integer.F.kp (bd_is_integer D_is_integer) (ca_cons (co_val (ce_sub (co_slot 1) ce_int)) (ca_cons (co_val ce_int) (ca_cons (co_val (ce_bin od_sub (ce_sub (co_slot 0) (ce_sub (co_slot 1) ce_int)) ce_int)) ca_nil)))))))) hlaw
/-! ### is_copies: 0 scheme, 1 value, 2 one -/
abbrev S_is_copies : Stmt := top 12
abbrev P_is_copies : List Str := ["scheme", "value"]
abbrev N_is_copies : List Str := ["scheme", "value", "one"]
theorem sc_is_copies : FnScope N_is_copies P_is_copies (defScope S_is_copies) := ⟨rfl, rfl, rfl, by decide +kernel, rfl, by decide +kernel, by decide +kernel⟩
theorem bd_is_copies {K : Fg} {mg : Str → Option Value} {f : Addr} {fd : FuncData} (D : Dfn K mg "is_copies" S_is_copies f fd) : Binds K fd P_is_copies [] := D.F.bindsN fun _ _ _ _ _ _ us hl => match us, hl with | [_, _], _ => rfl
def t_is_copies (s_is_copy : DSp) : DS :=
    (sCons (dIfS (dOr (dNot (dTst (tmpD (dIsi .tuple (oSlot 1))))) (dNot (dTst (tmpD (dCB allD (aCons (tmpD (dLc (iSeq (oSlot 1)) (gN 2) dYes (oVal (dCall 2 s_is_copy (aCons (oSlot 0) (aCons (oSlot 2) aNil)))) [2])) aNil)))))) (dRet (dC (.bool false))) sNil)
    (dRet (dBin eqD (tmpD (dUn lsetD (oSlot 1))) (tmpD (dCB lenD (aCons (oSlot 1) aNil))))))
theorem ok_is_copies {P : Program} {w : World} {K : Fg} {mg : Str → Option Value} {base : Heap} {k : Nat} {f_is_copies : Addr} {fd_is_copies : FuncData}  {f_is_copy : Addr} {fd_is_copy : FuncData} {s_is_copy : DSp} {dsp : DSp}
    (B : Blt mg) (D_is_copies : Dfn K mg "is_copies" S_is_copies f_is_copies fd_is_copies)   (D_is_copy : Dfn K mg "is_copy" S_is_copy f_is_copy fd_is_copy)  (F_is_copy : FnD P w K mg base k f_is_copy fd_is_copy P_is_copy s_is_copy) 
    (hlaw : ∀ as pn Q, as.length = 2 → dsp as pn Q → t_is_copies s_is_copy { nx := fun ρ => Q .none ρ.pn, rt := Q } ⟨startD 3 as, pn⟩) : FnD P w K mg base (k + 1) f_is_copies fd_is_copies P_is_copies dsp :=
  FnD.mkD D_is_copies sc_is_copies (fun cdv A outer s H E O => (css_cons (cs_if (ct_w (cw_or (ct_not (ct_val (ce_isi .tuple (co_slot 1) (B.get "isinstance") (B.get "tuple")))) (cw_or1 (ct_not (ct_val (ce_callB (cd_all O) (B.get "all") b_all (ca_cons (ce_lc [(("one" : Str), 2)] O (ci_seq (co_slot 1)) (fun _ _ _ _ _ => (cg_n 2 O.blk.nd)) (fun _ _ _ _ _ => cts_nil) (fun _ _ _ _ _ => (co_val (ce_call F_is_copy O.blk D_is_copy.m D_is_copy.F.kp (bd_is_copy D_is_copy) (ca_cons (co_slot 0) (ca_cons (co_slot 2) ca_nil)))))) ca_nil))))))) (css_one (cs_ret ce_bl)) css_nil)
    (css_one (cs_ret (ce_cmp (od_eq O) (ce_lenSet O (B.get "len") (B.get "set") (co_slot 1)) (ce_callB cd_len (B.get "len") b_len (ca_cons (co_slot 1) ca_nil))))))) hlaw
/-! ### _law_open: 0 _law_script, 1 _law_cells, 2 _law_k, 3 _law_cell -/
abbrev S_law_open : Stmt := top 14
abbrev P_law_open : List Str := ["_law_script"]
abbrev N_law_open : List Str := ["_law_script", "_law_cells", "_law_k", "_law_cell"]
theorem sc_law_open : FnScope N_law_open P_law_open (defScope S_law_open) := ⟨rfl, rfl, rfl, by decide +kernel, rfl, by decide +kernel, by decide +kernel⟩
theorem bd_law_open {K : Fg} {mg : Str → Option Value} {f : Addr} {fd : FuncData} (D : Dfn K mg "_law_open" S_law_open f fd) : Binds K fd P_law_open [] := D.F.bindsN fun _ _ _ _ _ _ us hl => match us, hl with | [_], _ => rfl
def t_law_open : DS :=
    (sCons (dSet 1 (dCB listD (aCons (tmpD (dScr 0 pNone (pSome (tmpD (dC (.int 12)))))) aNil)))
    (sCons (dFor (iEn (aCons (tmpD (dScr 0 (pSome (tmpD (dC (.int 12)))) (pSome (tmpD (dC (.int 63)))))) aNil)) (gT 2 (gCons (gN 2) (gCons (gN 3) gNil))) (dSetIx 1 (tmpD (dBin modD (tmpD (dCB intD (aCons (oSlot 2) aNil))) (tmpD (dC (.int 12))))) (dBin addD (tmpD (dBin ixD (oSlot 1) (tmpD (dBin modD (tmpD (dCB intD (aCons (oSlot 2) aNil))) (tmpD (dC (.int 12))))))) (oSlot 3))))
    (dRet (dDisp Rs.own (aCons (oVal (dVar 1)) (aCons (oVal (dC (.int 0))) (aCons (oVal (dC (.int 0))) aNil)))))))
theorem ok_law_open {P : Program} {w : World} {K : Fg} {mg : Str → Option Value} {base : Heap} {k : Nat} {f_law_open : Addr} {fd_law_open : FuncData}    {dsp : DSp}
    (B : Blt mg) (D_law_open : Dfn K mg "_law_open" S_law_open f_law_open fd_law_open)      
    (hlaw : ∀ as pn Q, as.length = 1 → dsp as pn Q → t_law_open { nx := fun ρ => Q .none ρ.pn, rt := Q } ⟨startD 4 as, pn⟩) : FnD P w K mg base (k + 1) f_law_open fd_law_open P_law_open dsp :=
  FnD.mkD D_law_open sc_law_open (fun cdv A outer s H E O => (css_cons (cs_set 1 O (ce_callTy cd_list (B.get "list") b_list (ca_cons (ce_scr 0 cp_none (cp_some ce_int)) ca_nil)))
    (css_cons (cs_for O (ci_enum (B.get "enumerate") (ca_cons (ce_scr 0 (cp_some ce_int) (cp_some ce_int)) ca_nil)) (cg_t O (cgs_cons (cg_n 2 O.nd) (cgs_cons (cg_n 3 O.nd) cgs_nil))) (css_one (cs_setIx 1 (ce_bin od_mod (ce_callTy cd_int (B.get "int") b_int (ca_cons (co_slot 2) ca_nil)) ce_int) (ce_bin od_add (ce_sub (co_slot 1) (ce_bin od_mod (ce_callTy cd_int (B.get "int") b_int (ca_cons (co_slot 2) ca_nil)) ce_int)) (co_slot 3)))))
    (css_one (cs_ret (ce_lst (ca_cons (co_val (ce_var 1)) (ca_cons (co_val ce_int) (ca_cons (co_val ce_int) ca_nil))))))))) hlaw
/-! ### _law_spread: 0 _law_cell, 1 _law_at, 2 _law_primes, 3 _law_one, 4 _law_two, 5 _law_three -/
abbrev S_law_spread : Stmt := top 15
abbrev P_law_spread : List Str := ["_law_cell", "_law_at"]
abbrev N_law_spread : List Str := ["_law_cell", "_law_at", "_law_primes", "_law_one", "_law_two", "_law_three"]
theorem sc_law_spread : FnScope N_law_spread P_law_spread (defScope S_law_spread) := ⟨rfl, rfl, rfl, by decide +kernel, rfl, by decide +kernel, by decide +kernel⟩
theorem bd_law_spread {K : Fg} {mg : Str → Option Value} {f : Addr} {fd : FuncData} (D : Dfn K mg "_law_spread" S_law_spread f fd) : Binds K fd P_law_spread [] := D.F.bindsN fun _ _ _ _ _ _ us hl => match us, hl with | [_, _], _ => rfl
def t_law_spread : DS :=
    (sCons (dIfS (dTst (tmpD (dBin geD (oSlot 0) (tmpD (dBin powD (tmpD (dC (.int 10))) (tmpD (dC (.int 18)))))))) (dRet (dVar 0)) sNil)
    (sCons (dSet 2 (dDisp Rs.own (aCons (oVal (dC (.int 2147483629))) (aCons (oVal (dC (.int 2147483587))) (aCons (oVal (dC (.int 2147483579))) (aCons (oVal (dC (.int 2147483563))) (aCons (oVal (dC (.int 2147483549))) (aCons (oVal (dC (.int 2147483543))) (aCons (oVal (dC (.int 2147483497))) (aCons (oVal (dC (.int 2147483489))) aNil))))))))))
    (sCons (dSet 2 (dBin addD (oSlot 2) (tmpD (dDisp Rs.own (aCons (oVal (dC (.int 2147483477))) (aCons (oVal (dC (.int 2147483423))) (aCons (oVal (dC (.int 2147483399))) (aCons (oVal (dC (.int 2147483353))) (aCons (oVal (dC (.int 2147483323))) aNil)))))))))
    (sCons (dSet 3 (dBin addD (tmpD (dBin addD (tmpD (dBin mulT (tmpD (dBin modD (tmpD (dCB intD (aCons (oSlot 0) aNil))) (tmpD (dC (.int 1000000007))))) (tmpD (dBin addD (tmpD (dBin mulT (tmpD (dC (.int 2))) (oSlot 1))) (tmpD (dC (.int 69069))))))) (tmpD (dBin mulT (oSlot 1) (tmpD (dC (.int 40503))))))) (tmpD (dC (.int 977)))))
    (sCons (dSet 3 (dBin modD (tmpD (dCB intD (aCons (tmpD (dBin powD (oSlot 3) (tmpD (dC (.int 3))))) aNil))) (tmpD (dBin ixD (oSlot 2) (tmpD (dBin modD (tmpD (dCB intD (aCons (oSlot 1) aNil))) (tmpD (dC (.int 13)))))))))
    (sCons (dSet 4 (dBin modD (tmpD (dCB intD (aCons (tmpD (dBin powD (tmpD (dBin addD (tmpD (dBin addD (tmpD (dBin mulT (oSlot 3) (tmpD (dBin addD (oSlot 1) (tmpD (dC (.int 3))))))) (tmpD (dBin modD (tmpD (dCB intD (aCons (oSlot 0) aNil))) (tmpD (dC (.int 65537))))))) (tmpD (dC (.int 5))))) (tmpD (dC (.int 5))))) aNil))) (tmpD (dBin ixD (oSlot 2) (tmpD (dBin modD (tmpD (dCB intD (aCons (tmpD (dBin addD (oSlot 1) (tmpD (dC (.int 5))))) aNil))) (tmpD (dC (.int 13)))))))))
    (sCons (dSet 5 (dBin modD (tmpD (dCB intD (aCons (tmpD (dBin powD (tmpD (dBin addD (tmpD (dBin addD (oSlot 4) (tmpD (dBin modD (tmpD (dCB intD (aCons (oSlot 3) aNil))) (tmpD (dC (.int 1009))))))) (oSlot 1))) (tmpD (dC (.int 3))))) aNil))) (tmpD (dBin ixD (oSlot 2) (tmpD (dBin modD (tmpD (dCB intD (aCons (tmpD (dBin addD (oSlot 1) (tmpD (dC (.int 7))))) aNil))) (tmpD (dC (.int 13)))))))))
    (dRet (dBin addD (tmpD (dBin mulT (tmpD (dBin addD (tmpD (dBin mulT (oSlot 3) (tmpD (dC (.int 2147483647))))) (oSlot 4))) (tmpD (dC (.int 2147483647))))) (oSlot 5))))))))))
theorem ok_law_spread {P : Program} {w : World} {K : Fg} {mg : Str → Option Value} {base : Heap} {k : Nat} {f_law_spread : Addr} {fd_law_spread : FuncData}    {dsp : DSp}
    (B : Blt mg) (D_law_spread : Dfn K mg "_law_spread" S_law_spread f_law_spread fd_law_spread)      
    (hlaw : ∀ as pn Q, as.length = 2 → dsp as pn Q → t_law_spread { nx := fun ρ => Q .none ρ.pn, rt := Q } ⟨startD 6 as, pn⟩) : FnD P w K mg base (k + 1) f_law_spread fd_law_spread P_law_spread dsp :=
  FnD.mkD D_law_spread sc_law_spread (fun cdv A outer s H E O => (css_cons (cs_if (ct_cmp od_ge (co_slot 0) (ce_bin od_pow ce_int ce_int)) (css_one (cs_ret (ce_var 0))) css_nil)
    (css_cons (cs_set 2 O (ce_lst (ca_cons (co_val ce_int) (ca_cons (co_val ce_int) (ca_cons (co_val ce_int) (ca_cons (co_val ce_int) (ca_cons (co_val ce_int) (ca_cons (co_val ce_int) (ca_cons (co_val ce_int) (ca_cons (co_val ce_int) ca_nil))))))))))
    (css_cons (cs_set 2 O (ce_bin od_add (co_slot 2) (ce_lst (ca_cons (co_val ce_int) (ca_cons (co_val ce_int) (ca_cons (co_val ce_int) (ca_cons (co_val ce_int) (ca_cons (co_val ce_int) ca_nil))))))))
    (css_cons (cs_set 3 O (ce_bin od_add (ce_bin od_add (ce_bin od_mulT (ce_bin od_mod (ce_callTy cd_int (B.get "int") b_int (ca_cons (co_slot 0) ca_nil)) ce_int) (ce_bin od_add (ce_bin od_mulT ce_int (co_slot 1)) ce_int)) (ce_bin od_mulT (co_slot 1) ce_int)) ce_int))
    (css_cons (cs_set 3 O (ce_bin od_mod (ce_callTy cd_int (B.get "int") b_int (ca_cons (ce_bin od_pow (co_slot 3) ce_int) ca_nil)) (ce_sub (co_slot 2) (ce_bin od_mod (ce_callTy cd_int (B.get "int") b_int (ca_cons (co_slot 1) ca_nil)) ce_int))))
    (css_cons (cs_set 4 O (ce_bin od_mod (ce_callTy cd_int (B.get "int") b_int (ca_cons (ce_bin od_pow (ce_bin od_add (ce_bin od_add (ce_bin od_mulT (co_slot 3) (ce_bin od_add (co_slot 1) ce_int)) (ce_bin od_mod (ce_callTy cd_int (B.get "int") b_int (ca_cons (co_slot 0) ca_nil)) ce_int)) ce_int) ce_int) ca_nil)) (ce_sub (co_slot 2) (ce_bin od_mod (ce_callTy cd_int (B.get "int") b_int (ca_cons (ce_bin od_add (co_slot 1) ce_int) ca_nil)) ce_int))))
    (css_cons (cs_set 5 O (ce_bin od_mod (ce_callTy cd_int (B.get "int") b_int (ca_cons (ce_bin od_pow (ce_bin od_add (ce_bin od_add (co_slot 4) (ce_bin od_mod (ce_callTy cd_int (B.get "int") b_int (ca_cons (co_slot 3) ca_nil)) ce_int)) (co_slot 1)) ce_int) ca_nil)) (ce_sub (co_slot 2) (ce_bin od_mod (ce_callTy cd_int (B.get "int") b_int (ca_cons (ce_bin od_add (co_slot 1) ce_int) ca_nil)) ce_int))))
    (css_one (cs_ret (ce_bin od_add (ce_bin od_mulT (ce_bin od_add (ce_bin od_mulT (co_slot 3) ce_int) (co_slot 4)) ce_int) (co_slot 5)))))))))))) hlaw
/-! ### _law_take: 0 _law_pen, 1 _law_amount, 2 _law_found, 3 _law_at, 4 _law_cell -/
abbrev S_law_take : Stmt := top 16
abbrev P_law_take : List Str := ["_law_pen", "_law_amount"]
abbrev N_law_take : List Str := ["_law_pen", "_law_amount", "_law_found", "_law_at", "_law_cell"]
theorem sc_law_take : FnScope N_law_take P_law_take (defScope S_law_take) := ⟨rfl, rfl, rfl, by decide +kernel, rfl, by decide +kernel, by decide +kernel⟩
theorem bd_law_take {K : Fg} {mg : Str → Option Value} {f : Addr} {fd : FuncData} (D : Dfn K mg "_law_take" S_law_take f fd) : Binds K fd P_law_take [] := D.F.bindsN fun _ _ _ _ _ _ us hl => match us, hl with | [_, _], _ => rfl
def t_law_take (s_law_spread : DSp) : DS :=
    (sCons (dIfS (dTst (tmpD (dBin ltD (tmpD (dPen 0 2)) (oSlot 1)))) (sCons (dSet 3 (dPen 0 1))
    (sCons (dSet 4 (dC (.int 0)))
    (sCons (dIfS (dTst (tmpD (dBin ltD (oSlot 3) (tmpD (dCB lenD (aCons (tmpD (dPen 0 0)) aNil)))))) (dSet 4 (dBin ixD (tmpD (dPen 0 0)) (oSlot 3))) (dIfS (dTst (tmpD (dBin gtD (tmpD (dCB lenD (aCons (tmpD (dPen 0 0)) aNil))) (tmpD (dC (.int 0)))))) (dSet 4 (dBin modD (tmpD (dCB intD (aCons (tmpD (dBin ixD (tmpD (dPen 0 0)) (tmpD (dBin modD (tmpD (dCB intD (aCons (tmpD (dBin addD (tmpD (dBin mulT (oSlot 3) (tmpD (dC (.int 5))))) (tmpD (dC (.int 3))))) aNil))) (tmpD (dCB lenD (aCons (tmpD (dPen 0 0)) aNil))))))) aNil))) (tmpD (dBin addD (tmpD (dBin powD (tmpD (dC (.int 10))) (tmpD (dC (.int 17))))) (oSlot 3))))) sNil))
    (sCons (dPenSet 0 1 (dBin addD (oSlot 3) (tmpD (dC (.int 1)))))
    (dPenSet 0 2 (dCall 2 s_law_spread (aCons (oSlot 4) (aCons (oSlot 3) aNil)))))))) sNil)
    (sCons (dSet 2 (dBin modD (tmpD (dCB intD (aCons (tmpD (dPen 0 2)) aNil))) (oSlot 1)))
    (sCons (dPenSet 0 2 (dBin fdivD (tmpD (dPen 0 2)) (oSlot 1)))
    (dRet (dVar 2)))))
theorem ok_law_take {P : Program} {w : World} {K : Fg} {mg : Str → Option Value} {base : Heap} {k : Nat} {f_law_take : Addr} {fd_law_take : FuncData}  {f_law_spread : Addr} {fd_law_spread : FuncData} {s_law_spread : DSp} {dsp : DSp}
    (B : Blt mg) (D_law_take : Dfn K mg "_law_take" S_law_take f_law_take fd_law_take)   (D_law_spread : Dfn K mg "_law_spread" S_law_spread f_law_spread fd_law_spread)  (F_law_spread : FnD P w K mg base k f_law_spread fd_law_spread P_law_spread s_law_spread) 
    (hlaw : ∀ as pn Q, as.length = 2 → dsp as pn Q → t_law_take s_law_spread { nx := fun ρ => Q .none ρ.pn, rt := Q } ⟨startD 5 as, pn⟩) : FnD P w K mg base (k + 1) f_law_take fd_law_take P_law_take dsp :=
  FnD.mkD D_law_take sc_law_take (fun cdv A outer s H E O => (css_cons (cs_if (ct_cmp od_lt (ce_pen 0) (co_slot 1)) (css_cons (cs_set 3 O (ce_pen 0))
    (css_cons (cs_set 4 O ce_int)
    (css_cons (cs_if (ct_cmp od_lt (co_slot 3) (ce_callB cd_len (B.get "len") b_len (ca_cons (ce_pen 0) ca_nil))) (css_one (cs_set 4 O (ce_sub (ce_pen 0) (co_slot 3)))) (css_one (cs_if (ct_cmp od_gt (ce_callB cd_len (B.get "len") b_len (ca_cons (ce_pen 0) ca_nil)) ce_int) (css_one (cs_set 4 O (ce_bin od_mod (ce_callTy cd_int (B.get "int") b_int (ca_cons (ce_sub (ce_pen 0) (ce_bin od_mod (ce_callTy cd_int (B.get "int") b_int (ca_cons (ce_bin od_add (ce_bin od_mulT (co_slot 3) ce_int) ce_int) ca_nil)) (ce_callB cd_len (B.get "len") b_len (ca_cons (ce_pen 0) ca_nil)))) ca_nil)) (ce_bin od_add (ce_bin od_pow ce_int ce_int) (co_slot 3))))) css_nil)))
    (css_cons (cs_setPen 0 (ce_bin od_add (co_slot 3) ce_int))
    (css_one (cs_setPen 0 (ce_call F_law_spread O D_law_spread.m D_law_spread.F.kp (bd_law_spread D_law_spread) (ca_cons (co_slot 4) (ca_cons (co_slot 3) ca_nil))))))))) css_nil)
    (css_cons (cs_set 2 O (ce_bin od_mod (ce_callTy cd_int (B.get "int") b_int (ca_cons (ce_pen 0) ca_nil)) (co_slot 1)))
    (css_cons (cs_setPen 0 (ce_bin od_fdiv (ce_pen 0) (co_slot 1)))
    (css_one (cs_ret (ce_var 2))))))) hlaw
/-! ### _law_same: 0 _law_found, 1 _law_due, 2 _law_one, 3 _law_other -/
abbrev S_law_same : Stmt := top 17
abbrev P_law_same : List Str := ["_law_found", "_law_due"]
abbrev N_law_same : List Str := ["_law_found", "_law_due", "_law_one", "_law_other"]
theorem sc_law_same : FnScope N_law_same P_law_same (defScope S_law_same) := ⟨rfl, rfl, rfl, by decide +kernel, rfl, by decide +kernel, by decide +kernel⟩
theorem bd_law_same {K : Fg} {mg : Str → Option Value} {f : Addr} {fd : FuncData} (D : Dfn K mg "_law_same" S_law_same f fd) : Binds K fd P_law_same [] := D.F.bindsN fun _ _ _ _ _ _ us hl => match us, hl with | [_, _], _ => rfl
def t_law_same (s_law_same : DSp) : DS :=
    (sCons (dIfS (dOr (dTst (tmpD (dBin (isD false) (oSlot 1) (tmpD (dC .none))))) (dTst (tmpD (dBin (isD false) (oSlot 0) (tmpD (dC .none)))))) (dRet (dAndV (dBin (isD false) (oSlot 1) (tmpD (dC .none))) (dBin (isD false) (oSlot 0) (tmpD (dC .none))))) sNil)
    (sCons (dIfS (dOr (dTst (tmpD (dIsi .bool (oSlot 1)))) (dTst (tmpD (dIsi .bool (oSlot 0))))) (dRet (dAndV (dIsi .bool (oSlot 1)) (dAndV (dIsi .bool (oSlot 0)) (dBin eqD (oSlot 0) (oSlot 1))))) sNil)
    (sCons (dIfS (dTst (tmpD (dIsi2 .int .str (oSlot 1)))) (sCons (dIfS (dTst (tmpD (dBin neD (tmpD (dIsi .int (oSlot 0))) (tmpD (dIsi .int (oSlot 1)))))) (dRet (dC (.bool false))) sNil)
    (dRet (dAndV (dIsi2 .int .str (oSlot 0)) (dBin eqD (oSlot 0) (oSlot 1))))) sNil)
    (sCons (dIfS (dOr (dTst (tmpD (dBin neD (tmpD (dIsi .tuple (oSlot 1))) (tmpD (dIsi .tuple (oSlot 0)))))) (dTst (tmpD (dBin neD (tmpD (dIsi .list (oSlot 1))) (tmpD (dIsi .list (oSlot 0))))))) (dRet (dC (.bool false))) sNil)
    (sCons (dIfS (dTst (tmpD (dBin neD (tmpD (dCB lenD (aCons (oSlot 0) aNil))) (tmpD (dCB lenD (aCons (oSlot 1) aNil)))))) (dRet (dC (.bool false))) sNil)
    (dRet (dBin (inD true) (tmpD (dC (.bool false))) (tmpD (dLc (iZp false (aCons (oSlot 0) (aCons (oSlot 1) aNil))) (gT 2 (gCons (gN 2) (gCons (gN 3) gNil))) dYes (oVal (dCall 2 s_law_same (aCons (oSlot 2) (aCons (oSlot 3) aNil)))) [2, 3])))))))))
theorem ok_law_same {P : Program} {w : World} {K : Fg} {mg : Str → Option Value} {base : Heap} {k : Nat} {f_law_same : Addr} {fd_law_same : FuncData}   {s_law_same : DSp} {dsp : DSp}
    (B : Blt mg) (D_law_same : Dfn K mg "_law_same" S_law_same f_law_same fd_law_same)     (F_law_same : FnD P w K mg base k f_law_same fd_law_same P_law_same s_law_same) 
    (hlaw : ∀ as pn Q, as.length = 2 → dsp as pn Q → t_law_same s_law_same { nx := fun ρ => Q .none ρ.pn, rt := Q } ⟨startD 4 as, pn⟩) : FnD P w K mg base (k + 1) f_law_same fd_law_same P_law_same dsp :=
  FnD.mkD D_law_same sc_law_same (fun cdv A outer s H E O => (css_cons (cs_if (ct_w (cw_or (ct_cmp od_is (co_slot 1) ce_non) (cw_or1 (ct_cmp od_is (co_slot 0) ce_non)))) (css_one (cs_ret (ce_and (ce_cmp od_is (co_slot 1) ce_non) (ce_one (ce_cmp od_is (co_slot 0) ce_non))))) css_nil)
    (css_cons (cs_if (ct_w (cw_or (ct_val (ce_isi .bool (co_slot 1) (B.get "isinstance") (B.get "bool"))) (cw_or1 (ct_val (ce_isi .bool (co_slot 0) (B.get "isinstance") (B.get "bool")))))) (css_one (cs_ret (ce_and (ce_isi .bool (co_slot 1) (B.get "isinstance") (B.get "bool")) (ce_and (ce_isi .bool (co_slot 0) (B.get "isinstance") (B.get "bool")) (ce_one (ce_cmp (od_eq O) (co_slot 0) (co_slot 1))))))) css_nil)
    (css_cons (cs_if (ct_val (ce_isi2 .int .str (co_slot 1) (B.get "isinstance") (B.get "int") (B.get "str"))) (css_cons (cs_if (ct_cmp (od_ne O) (ce_isi .int (co_slot 0) (B.get "isinstance") (B.get "int")) (ce_isi .int (co_slot 1) (B.get "isinstance") (B.get "int"))) (css_one (cs_ret ce_bl)) css_nil)
    (css_one (cs_ret (ce_and (ce_isi2 .int .str (co_slot 0) (B.get "isinstance") (B.get "int") (B.get "str")) (ce_one (ce_cmp (od_eq O) (co_slot 0) (co_slot 1))))))) css_nil)
    (css_cons (cs_if (ct_w (cw_or (ct_cmp (od_ne O) (ce_isi .tuple (co_slot 1) (B.get "isinstance") (B.get "tuple")) (ce_isi .tuple (co_slot 0) (B.get "isinstance") (B.get "tuple"))) (cw_or1 (ct_cmp (od_ne O) (ce_isi .list (co_slot 1) (B.get "isinstance") (B.get "list")) (ce_isi .list (co_slot 0) (B.get "isinstance") (B.get "list")))))) (css_one (cs_ret ce_bl)) css_nil)
    (css_cons (cs_if (ct_cmp (od_ne O) (ce_callB cd_len (B.get "len") b_len (ca_cons (co_slot 0) ca_nil)) (ce_callB cd_len (B.get "len") b_len (ca_cons (co_slot 1) ca_nil))) (css_one (cs_ret ce_bl)) css_nil)
    (css_one (cs_ret (ce_cmp (od_notin O) ce_bl (ce_lc [(("_law_one" : Str), 2), (("_law_other" : Str), 3)] O (ci_zip (B.get "zip") (ca_cons (co_slot 0) (ca_cons (co_slot 1) ca_nil))) (fun _ _ _ _ _ => (cg_t O.blk (cgs_cons (cg_n 2 O.blk.nd) (cgs_cons (cg_n 3 O.blk.nd) cgs_nil)))) (fun _ _ _ _ _ => cts_nil) (fun _ _ _ _ _ => (co_val (ce_call F_law_same O.blk D_law_same.m D_law_same.F.kp (bd_law_same D_law_same) (ca_cons (co_slot 2) (ca_cons (co_slot 3) ca_nil))))))))))))))) hlaw
/-! ### _law_one_of: 0 _law_pen, 1 _law_some -/
abbrev S_law_one_of : Stmt := top 18
abbrev P_law_one_of : List Str := ["_law_pen", "_law_some"]
abbrev N_law_one_of : List Str := ["_law_pen", "_law_some"]
theorem sc_law_one_of : FnScope N_law_one_of P_law_one_of (defScope S_law_one_of) := ⟨rfl, rfl, rfl, by decide +kernel, rfl, by decide +kernel, by decide +kernel⟩
theorem bd_law_one_of {K : Fg} {mg : Str → Option Value} {f : Addr} {fd : FuncData} (D : Dfn K mg "_law_one_of" S_law_one_of f fd) : Binds K fd P_law_one_of [] := D.F.bindsN fun _ _ _ _ _ _ us hl => match us, hl with | [_, _], _ => rfl
def t_law_one_of (s_law_take : DSp) : DS :=
    (dRet (dBin ixD (oSlot 1) (tmpD (dCall 2 s_law_take (aCons (oSlot 0) (aCons (oVal (dCB lenD (aCons (oSlot 1) aNil))) aNil))))))
theorem ok_law_one_of {P : Program} {w : World} {K : Fg} {mg : Str → Option Value} {base : Heap} {k : Nat} {f_law_one_of : Addr} {fd_law_one_of : FuncData}  {f_law_take : Addr} {fd_law_take : FuncData} {s_law_take : DSp} {dsp : DSp}
    (B : Blt mg) (D_law_one_of : Dfn K mg "_law_one_of" S_law_one_of f_law_one_of fd_law_one_of)   (D_law_take : Dfn K mg "_law_take" S_law_take f_law_take fd_law_take)  (F_law_take : FnD P w K mg base k f_law_take fd_law_take P_law_take s_law_take) 
    (hlaw : ∀ as pn Q, as.length = 2 → dsp as pn Q → t_law_one_of s_law_take { nx := fun ρ => Q .none ρ.pn, rt := Q } ⟨startD 2 as, pn⟩) : FnD P w K mg base (k + 1) f_law_one_of fd_law_one_of P_law_one_of dsp :=
  FnD.mkD D_law_one_of sc_law_one_of (fun cdv A outer s H E O => (css_one (cs_ret (ce_sub (co_slot 1) (ce_call F_law_take O D_law_take.m D_law_take.F.kp (bd_law_take D_law_take) (ca_cons (co_slot 0) (ca_cons (co_val (ce_callB cd_len (B.get "len") b_len (ca_cons (co_slot 1) ca_nil))) ca_nil))))))) hlaw
/-! ### _law_is_integer: 0 _law_value, 1 _law_low, 2 _law_high -/
abbrev S_law_is_integer : Stmt := top 19
abbrev P_law_is_integer : List Str := ["_law_value", "_law_low", "_law_high"]
abbrev N_law_is_integer : List Str := ["_law_value", "_law_low", "_law_high"]
theorem sc_law_is_integer : FnScope N_law_is_integer P_law_is_integer (defScope S_law_is_integer) := ⟨rfl, rfl, rfl, by decide +kernel, rfl, by decide +kernel, by decide +kernel⟩
theorem bd_law_is_integer {K : Fg} {mg : Str → Option Value} {f : Addr} {fd : FuncData} (D : Dfn K mg "_law_is_integer" S_law_is_integer f fd) : Binds K fd P_law_is_integer [] := D.F.bindsN fun _ _ _ _ _ _ us hl => match us, hl with | [_, _, _], _ => rfl
def t_law_is_integer : DS :=
    (dRet (dAndV (dIsi .int (oSlot 0)) (dAndV (dNotV (dIsi .bool (oSlot 0))) (dChain leD leD (oSlot 1) (oSlot 0) (oSlot 2)))))
theorem ok_law_is_integer {P : Program} {w : World} {K : Fg} {mg : Str → Option Value} {base : Heap} {k : Nat} {f_law_is_integer : Addr} {fd_law_is_integer : FuncData}    {dsp : DSp}
    (B : Blt mg) (D_law_is_integer : Dfn K mg "_law_is_integer" S_law_is_integer f_law_is_integer fd_law_is_integer)      
    (hlaw : ∀ as pn Q, as.length = 3 → dsp as pn Q → t_law_is_integer { nx := fun ρ => Q .none ρ.pn, rt := Q } ⟨startD 3 as, pn⟩) : FnD P w K mg base (k + 1) f_law_is_integer fd_law_is_integer P_law_is_integer dsp :=
  FnD.mkD D_law_is_integer sc_law_is_integer (fun cdv A outer s H E O => (css_one (cs_ret (ce_and (ce_isi .int (co_slot 0) (B.get "isinstance") (B.get "int")) (ce_and (ce_not (ce_isi .bool (co_slot 0) (B.get "isinstance") (B.get "bool"))) (ce_one (ce_chain od_le od_le (co_slot 1) (co_slot 0) (co_slot 2)))))))) hlaw
/-! ### _law_draw_scheme: 0 _law_pen, 1 _law_again -/
abbrev S_law_draw_scheme : Stmt := top 20
abbrev P_law_draw_scheme : List Str := ["_law_pen"]
abbrev N_law_draw_scheme : List Str := ["_law_pen", "_law_again"]
theorem sc_law_draw_scheme : FnScope N_law_draw_scheme P_law_draw_scheme (defScope S_law_draw_scheme) := ⟨rfl, rfl, rfl, by decide +kernel, rfl, by decide +kernel, by decide +kernel⟩
theorem bd_law_draw_scheme {K : Fg} {mg : Str → Option Value} {f : Addr} {fd : FuncData} (D : Dfn K mg "_law_draw_scheme" S_law_draw_scheme f fd) : Binds K fd P_law_draw_scheme [] := D.F.bindsN fun _ _ _ _ _ _ us hl => match us, hl with | [_], _ => rfl
def t_law_draw_scheme (s_law_take : DSp) : DS :=
    (dRet (dCB tupleD (aCons (tmpD (dLc (iRange1 (tmpD (dBin addD (tmpD (dC (.int 1))) (tmpD (dCall 2 s_law_take (aCons (oSlot 0) (aCons (oVal (dC (.int 4))) aNil))))))) (gN 1) dYes (oVal (dBin addD (tmpD (dC (.int 1))) (tmpD (dCall 2 s_law_take (aCons (oSlot 0) (aCons (oVal (dC (.int 3))) aNil)))))) [1])) aNil)))
theorem ok_law_draw_scheme {P : Program} {w : World} {K : Fg} {mg : Str → Option Value} {base : Heap} {k : Nat} {f_law_draw_scheme : Addr} {fd_law_draw_scheme : FuncData}  {f_law_take : Addr} {fd_law_take : FuncData} {s_law_take : DSp} {dsp : DSp}
    (B : Blt mg) (D_law_draw_scheme : Dfn K mg "_law_draw_scheme" S_law_draw_scheme f_law_draw_scheme fd_law_draw_scheme)   (D_law_take : Dfn K mg "_law_take" S_law_take f_law_take fd_law_take)  (F_law_take : FnD P w K mg base k f_law_take fd_law_take P_law_take s_law_take) 
    (hlaw : ∀ as pn Q, as.length = 1 → dsp as pn Q → t_law_draw_scheme s_law_take { nx := fun ρ => Q .none ρ.pn, rt := Q } ⟨startD 2 as, pn⟩) : FnD P w K mg base (k + 1) f_law_draw_scheme fd_law_draw_scheme P_law_draw_scheme dsp :=
  FnD.mkD D_law_draw_scheme sc_law_draw_scheme (fun cdv A outer s H E O => (css_one (cs_ret (ce_callTy cd_tuple (B.get "tuple") b_tuple (ca_cons (ce_lc [(("_law_again" : Str), 1)] O (ci_range1 (B.get "range") (ce_bin od_add ce_int (ce_call F_law_take O D_law_take.m D_law_take.F.kp (bd_law_take D_law_take) (ca_cons (co_slot 0) (ca_cons (co_val ce_int) ca_nil))))) (fun _ _ _ _ _ => (cg_n 1 O.blk.nd)) (fun _ _ _ _ _ => cts_nil) (fun _ _ _ _ _ => (co_val (ce_bin od_add ce_int (ce_call F_law_take O.blk D_law_take.m D_law_take.F.kp (bd_law_take D_law_take) (ca_cons (co_slot 0) (ca_cons (co_val ce_int) ca_nil))))))) ca_nil))))) hlaw
/-! ### _law_draw_database: 0 _law_pen, 1 _law_scheme, 2 _law_most, 3 _law_columns, 4 _law_high, 5 _law_found, 6 _law_rows, 7 _law_again, 8 _law_row, 9 _law_k -/
abbrev S_law_draw_database : Stmt := top 21
abbrev P_law_draw_database : List Str := ["_law_pen", "_law_scheme", "_law_most"]
abbrev N_law_draw_database : List Str := ["_law_pen", "_law_scheme", "_law_most", "_law_columns", "_law_high", "_law_found", "_law_rows", "_law_again", "_law_row", "_law_k"]
theorem sc_law_draw_database : FnScope N_law_draw_database P_law_draw_database (defScope S_law_draw_database) := ⟨rfl, rfl, rfl, by decide +kernel, rfl, by decide +kernel, by decide +kernel⟩
theorem bd_law_draw_database {K : Fg} {mg : Str → Option Value} {f : Addr} {fd : FuncData} (D : Dfn K mg "_law_draw_database" S_law_draw_database f fd) : Binds K fd P_law_draw_database [] := D.F.bindsN fun _ _ _ _ _ _ us hl => match us, hl with | [_, _, _], _ => rfl
def t_law_draw_database (s_law_one_of s_law_take : DSp) : DS :=
    (sCons (dPar2 4 5 (aCons (tmpD (dCall 2 s_law_one_of (aCons (oSlot 0) (aCons (oVal (dDisp Rs.own (aCons (oVal (dC (.int 2))) (aCons (oVal (dC (.int 3))) (aCons (oVal (dC (.int 3))) (aCons (oVal (dC (.int 100))) aNil)))))) aNil)))) (aCons (tmpD (dDisp Rs.own aNil)) aNil)))
    (sCons (dFor (iSeq (oFix 1)) (gN 3) (sCons (dSet 6 (dDisp Rs.own aNil))
    (sCons (dFor (iRange1 (tmpD (dCall 2 s_law_take (aCons (oSlot 0) (aCons (oVal (dBin addD (oSlot 2) (tmpD (dC (.int 1))))) aNil))))) (gN 7) (sCons (dSet 8 (dCB tupleD (aCons (tmpD (dLc (iRange1 (oSlot 3)) (gN 9) dYes (oVal (dCall 2 s_law_take (aCons (oSlot 0) (aCons (oSlot 4) aNil)))) [9])) aNil)))
    (dExpr (dAppend 6 (oVal (dIfE (dAnd (dTst (tmpD (dBin neD (oSlot 6) (tmpD (dDisp Rs.own aNil))))) (dTst (tmpD (dBin eqD (tmpD (dCall 2 s_law_take (aCons (oSlot 0) (aCons (oVal (dC (.int 4))) aNil)))) (tmpD (dC (.int 0))))))) (dCall 2 s_law_one_of (aCons (oSlot 0) (aCons (oSlot 6) aNil))) (dVar 8)))))))
    (dExpr (dAppend 5 (oVal (dCB tupleD (aCons (tmpD (dCB sortedD (aCons (oSlot 6) aNil))) aNil))))))))
    (dRet (dCB tupleD (aCons (oSlot 5) aNil)))))
theorem ok_law_draw_database {P : Program} {w : World} {K : Fg} {mg : Str → Option Value} {base : Heap} {k : Nat} {f_law_draw_database : Addr} {fd_law_draw_database : FuncData}  {f_law_one_of : Addr} {fd_law_one_of : FuncData} {f_law_take : Addr} {fd_law_take : FuncData} {s_law_one_of s_law_take : DSp} {dsp : DSp}
    (B : Blt mg) (D_law_draw_database : Dfn K mg "_law_draw_database" S_law_draw_database f_law_draw_database fd_law_draw_database)   (D_law_one_of : Dfn K mg "_law_one_of" S_law_one_of f_law_one_of fd_law_one_of) (D_law_take : Dfn K mg "_law_take" S_law_take f_law_take fd_law_take)  (F_law_one_of : FnD P w K mg base k f_law_one_of fd_law_one_of P_law_one_of s_law_one_of) (F_law_take : FnD P w K mg base k f_law_take fd_law_take P_law_take s_law_take) 
    (hlaw : ∀ as pn Q, as.length = 3 → dsp as pn Q → t_law_draw_database s_law_one_of s_law_take { nx := fun ρ => Q .none ρ.pn, rt := Q } ⟨startD 10 as, pn⟩) : FnD P w K mg base (k + 1) f_law_draw_database fd_law_draw_database P_law_draw_database dsp :=
  FnD.mkD D_law_draw_database sc_law_draw_database (fun cdv A outer s H E O => (css_cons (cs_par2t 4 5 O (ca_cons (ce_call F_law_one_of O D_law_one_of.m D_law_one_of.F.kp (bd_law_one_of D_law_one_of) (ca_cons (co_slot 0) (ca_cons (co_val (ce_lst (ca_cons (co_val ce_int) (ca_cons (co_val ce_int) (ca_cons (co_val ce_int) (ca_cons (co_val ce_int) ca_nil)))))) ca_nil))) (ca_cons (ce_lst ca_nil) ca_nil)))
    (css_cons (cs_for O (ci_seq (co_fix 1)) (cg_n 3 O.nd) (css_cons (cs_set 6 O (ce_lst ca_nil))
    (css_cons (cs_for O (ci_range1 (B.get "range") (ce_call F_law_take O D_law_take.m D_law_take.F.kp (bd_law_take D_law_take) (ca_cons (co_slot 0) (ca_cons (co_val (ce_bin od_add (co_slot 2) ce_int)) ca_nil)))) (cg_n 7 O.nd) (css_cons (cs_set 8 O (ce_callTy cd_tuple (B.get "tuple") b_tuple (ca_cons (ce_lc [(("_law_k" : Str), 9)] O (ci_range1 (B.get "range") (co_slot 3)) (fun _ _ _ _ _ => (cg_n 9 O.blk.nd)) (fun _ _ _ _ _ => cts_nil) (fun _ _ _ _ _ => (co_val (ce_call F_law_take O.blk D_law_take.m D_law_take.F.kp (bd_law_take D_law_take) (ca_cons (co_slot 0) (ca_cons (co_slot 4) ca_nil)))))) ca_nil)))
    (css_one (cs_expr (ce_append 6 (co_val (ce_if (ct_w (cw_and (ct_cmp (od_ne O) (co_slot 6) (ce_lst ca_nil)) (cw_and1 (ct_cmp (od_eq O) (ce_call F_law_take O D_law_take.m D_law_take.F.kp (bd_law_take D_law_take) (ca_cons (co_slot 0) (ca_cons (co_val ce_int) ca_nil))) ce_int)))) (ce_call F_law_one_of O D_law_one_of.m D_law_one_of.F.kp (bd_law_one_of D_law_one_of) (ca_cons (co_slot 0) (ca_cons (co_slot 6) ca_nil))) (ce_var 8))))))))
    (css_one (cs_expr (ce_append 5 (co_val (ce_callTy cd_tuple (B.get "tuple") b_tuple (ca_cons (ce_callB (cd_sorted O) (B.get "sorted") b_sorted (ca_cons (co_slot 6) ca_nil)) ca_nil)))))))))
    (css_one (cs_ret (ce_callTy cd_tuple (B.get "tuple") b_tuple (ca_cons (co_slot 5) ca_nil))))))) hlaw
/-! ### _law_draw_copies: 0 _law_pen, 1 _law_scheme, 2 _law_some, 3 _law_found, 4 _law_table, 5 _law_columns, 6 _law_k -/
abbrev S_law_draw_copies : Stmt := top 22
abbrev P_law_draw_copies : List Str := ["_law_pen", "_law_scheme"]
abbrev N_law_draw_copies : List Str := ["_law_pen", "_law_scheme", "_law_some", "_law_found", "_law_table", "_law_columns", "_law_k"]
theorem sc_law_draw_copies : FnScope N_law_draw_copies P_law_draw_copies (defScope S_law_draw_copies) := ⟨rfl, rfl, rfl, by decide +kernel, rfl, by decide +kernel, by decide +kernel⟩
theorem bd_law_draw_copies {K : Fg} {mg : Str → Option Value} {f : Addr} {fd : FuncData} (D : Dfn K mg "_law_draw_copies" S_law_draw_copies f fd) : Binds K fd P_law_draw_copies [] := D.F.bindsN fun _ _ _ _ _ _ us hl => match us, hl with | [_, _], _ => rfl
def t_law_draw_copies (s_law_take : DSp) : DS :=
    (sCons (dSet 2 (dDisp Rs.own aNil))
    (sCons (dFor (iEn (aCons (oFix 1) aNil)) (gT 2 (gCons (gN 4) (gCons (gN 5) gNil))) (dSet 2 (dBin addD (oSlot 2) (tmpD (dLc (iRange1 (oSlot 5)) (gN 6) (dTst (tmpD (dBin eqD (tmpD (dCall 2 s_law_take (aCons (oSlot 0) (aCons (oVal (dC (.int 3))) aNil)))) (tmpD (dC (.int 0)))))) (oVal (dDisp mkT (aCons (oVal (dVar 4)) (aCons (oVal (dVar 6)) aNil)))) [6])))))
    (sCons (dSet 3 (dDisp Rs.own aNil))
    (sCons (dWhile (dTst (tmpD (dBin neD (oSlot 2) (tmpD (dDisp Rs.own aNil))))) (dExpr (dAppend 3 (oVal (dPopAt 2 (tmpD (dCall 2 s_law_take (aCons (oSlot 0) (aCons (oVal (dCB lenD (aCons (oSlot 2) aNil))) aNil)))))))))
    (dRet (dCB tupleD (aCons (oSlot 3) aNil)))))))
theorem ok_law_draw_copies {P : Program} {w : World} {K : Fg} {mg : Str → Option Value} {base : Heap} {k : Nat} {f_law_draw_copies : Addr} {fd_law_draw_copies : FuncData}  {f_law_take : Addr} {fd_law_take : FuncData} {s_law_take : DSp} {dsp : DSp}
    (B : Blt mg) (D_law_draw_copies : Dfn K mg "_law_draw_copies" S_law_draw_copies f_law_draw_copies fd_law_draw_copies)   (D_law_take : Dfn K mg "_law_take" S_law_take f_law_take fd_law_take)  (F_law_take : FnD P w K mg base k f_law_take fd_law_take P_law_take s_law_take) 
    (hlaw : ∀ as pn Q, as.length = 2 → dsp as pn Q → t_law_draw_copies s_law_take { nx := fun ρ => Q .none ρ.pn, rt := Q } ⟨startD 7 as, pn⟩) : FnD P w K mg base (k + 1) f_law_draw_copies fd_law_draw_copies P_law_draw_copies dsp :=
  FnD.mkD D_law_draw_copies sc_law_draw_copies (fun cdv A outer s H E O => (css_cons (cs_set 2 O (ce_lst ca_nil))
    (css_cons (cs_for O (ci_enum (B.get "enumerate") (ca_cons (co_fix 1) ca_nil)) (cg_t O (cgs_cons (cg_n 4 O.nd) (cgs_cons (cg_n 5 O.nd) cgs_nil))) (css_one (cs_set 2 O (ce_bin od_add (co_slot 2) (ce_lc [(("_law_k" : Str), 6)] O (ci_range1 (B.get "range") (co_slot 5)) (fun _ _ _ _ _ => (cg_n 6 O.blk.nd)) (fun _ _ _ _ _ => (cts_one (ct_cmp (od_eq O.blk) (ce_call F_law_take O.blk D_law_take.m D_law_take.F.kp (bd_law_take D_law_take) (ca_cons (co_slot 0) (ca_cons (co_val ce_int) ca_nil))) ce_int))) (fun _ _ _ _ _ => (co_val (ce_tup (ca_cons (co_val (ce_var 4)) (ca_cons (co_val (ce_var 6)) ca_nil))))))))))
    (css_cons (cs_set 3 O (ce_lst ca_nil))
    (css_cons (cs_while O (ct_cmp (od_ne O) (co_slot 2) (ce_lst ca_nil)) (css_one (cs_expr (ce_append 3 (co_val (ce_popAt 2 (ce_call F_law_take O D_law_take.m D_law_take.F.kp (bd_law_take D_law_take) (ca_cons (co_slot 0) (ca_cons (co_val (ce_callB cd_len (B.get "len") b_len (ca_cons (co_slot 2) ca_nil))) ca_nil)))))))))
    (css_one (cs_ret (ce_callTy cd_tuple (B.get "tuple") b_tuple (ca_cons (co_slot 3) ca_nil))))))))) hlaw
/-! ### _law_odd: 0 _law_pen -/
abbrev S_law_odd : Stmt := top 23
abbrev P_law_odd : List Str := ["_law_pen"]
abbrev N_law_odd : List Str := ["_law_pen"]
theorem sc_law_odd : FnScope N_law_odd P_law_odd (defScope S_law_odd) := ⟨rfl, rfl, rfl, by decide +kernel, rfl, by decide +kernel, by decide +kernel⟩
theorem bd_law_odd {K : Fg} {mg : Str → Option Value} {f : Addr} {fd : FuncData} (D : Dfn K mg "_law_odd" S_law_odd f fd) : Binds K fd P_law_odd [] := D.F.bindsN fun _ _ _ _ _ _ us hl => match us, hl with | [_], _ => rfl
def t_law_odd (s_law_one_of : DSp) : DS :=
    (dRet (dCall 2 s_law_one_of (aCons (oSlot 0) (aCons (oVal (dDisp Rs.own (aCons (oVal (dC .none)) (aCons (oVal (dC (.bool true))) (aCons (oVal (dC (.bool false))) (aCons (oVal (dC (.int 0))) (aCons (oVal (dC (.int 1))) (aCons (oVal (dUn negD (tmpD (dC (.int 1))))) (aCons (oVal (dC (.str ("" : Str)))) (aCons (oVal (dC (.str ("a" : Str)))) (aCons (oVal (dDisp mkT aNil)) (aCons (oVal (dDisp Rs.own aNil)) (aCons (oVal (dC (.dict []))) (aCons (oVal (dDisp mkT (aCons (oVal (dC (.int 0))) aNil))) (aCons (oVal (dDisp Rs.own (aCons (oVal (dDisp mkT aNil)) aNil))) (aCons (oVal (dDisp mkT (aCons (oVal (dDisp mkT aNil)) aNil))) (aCons (oVal (dC (.int 99))) (aCons (oVal (dBin powD (tmpD (dC (.int 10))) (tmpD (dC (.int 20))))) aNil)))))))))))))))))) aNil))))
theorem ok_law_odd {P : Program} {w : World} {K : Fg} {mg : Str → Option Value} {base : Heap} {k : Nat} {f_law_odd : Addr} {fd_law_odd : FuncData}  {f_law_one_of : Addr} {fd_law_one_of : FuncData} {s_law_one_of : DSp} {dsp : DSp}
    (B : Blt mg) (D_law_odd : Dfn K mg "_law_odd" S_law_odd f_law_odd fd_law_odd)   (D_law_one_of : Dfn K mg "_law_one_of" S_law_one_of f_law_one_of fd_law_one_of)  (F_law_one_of : FnD P w K mg base k f_law_one_of fd_law_one_of P_law_one_of s_law_one_of) 
    (hlaw : ∀ as pn Q, as.length = 1 → dsp as pn Q → t_law_odd s_law_one_of { nx := fun ρ => Q .none ρ.pn, rt := Q } ⟨startD 1 as, pn⟩) : FnD P w K mg base (k + 1) f_law_odd fd_law_odd P_law_odd dsp :=
  FnD.mkD D_law_odd sc_law_odd (fun cdv A outer s H E O => (css_one (cs_ret (ce_call F_law_one_of O D_law_one_of.m D_law_one_of.F.kp (bd_law_one_of D_law_one_of) (ca_cons (co_slot 0) (ca_cons (co_val (ce_lst (ca_cons (co_val ce_non) (ca_cons (co_val ce_bl) (ca_cons (co_val ce_bl) (ca_cons (co_val ce_int) (ca_cons (co_val ce_int) (ca_cons (co_val (ce_un ud_neg ce_int)) (ca_cons (co_val ce_str) (ca_cons (co_val ce_str) (ca_cons (co_val (ce_tup ca_nil)) (ca_cons (co_val (ce_lst ca_nil)) (ca_cons (co_val ce_dict0) (ca_cons (co_val (ce_tup (ca_cons (co_val ce_int) ca_nil))) (ca_cons (co_val (ce_lst (ca_cons (co_val (ce_tup ca_nil)) ca_nil))) (ca_cons (co_val (ce_tup (ca_cons (co_val (ce_tup ca_nil)) ca_nil))) (ca_cons (co_val ce_int) (ca_cons (co_val (ce_bin od_pow ce_int ce_int)) ca_nil)))))))))))))))))) ca_nil)))))) hlaw
/-! ### _law_bent: 0 _law_pen, 1 _law_value, 2 _law_found, 3 _law_way, 4 _law_k -/
abbrev S_law_bent : Stmt := top 24
abbrev P_law_bent : List Str := ["_law_pen", "_law_value"]
abbrev N_law_bent : List Str := ["_law_pen", "_law_value", "_law_found", "_law_way", "_law_k"]
theorem sc_law_bent : FnScope N_law_bent P_law_bent (defScope S_law_bent) := ⟨rfl, rfl, rfl, by decide +kernel, rfl, by decide +kernel, by decide +kernel⟩
theorem bd_law_bent {K : Fg} {mg : Str → Option Value} {f : Addr} {fd : FuncData} (D : Dfn K mg "_law_bent" S_law_bent f fd) : Binds K fd P_law_bent [] := D.F.bindsN fun _ _ _ _ _ _ us hl => match us, hl with | [_, _], _ => rfl
def t_law_bent (s_law_take s_law_one_of s_law_odd s_law_bent : DSp) : DS :=
    (sCons (dIfS (dAnd (dTst (tmpD (dIsi .int (oSlot 1)))) (dTst (tmpD (dBin gtD (tmpD (dCall 2 s_law_take (aCons (oSlot 0) (aCons (oVal (dC (.int 4))) aNil)))) (tmpD (dC (.int 0))))))) (dRet (dCall 2 s_law_one_of (aCons (oSlot 0) (aCons (oVal (dDisp Rs.own (aCons (oVal (dBin addD (oSlot 1) (tmpD (dC (.int 1))))) (aCons (oVal (dBin subD (oSlot 1) (tmpD (dC (.int 1))))) (aCons (oVal (dIfE (dTst (tmpD (dChain leD ltD (tmpD (dC (.int 0))) (oSlot 1) (tmpD (dC (.int 2)))))) (dBin eqD (oSlot 1) (tmpD (dC (.int 1)))) (dUn negD (oSlot 1)))) (aCons (oVal (dBin mulT (oSlot 1) (tmpD (dC (.int 1000))))) aNil)))))) aNil)))) sNil)
    (sCons (dIfS (dOr (dNot (dTst (tmpD (dIsi2 .tuple .list (oSlot 1))))) (dOr (dTst (tmpD (dBin eqD (tmpD (dCB lenD (aCons (oSlot 1) aNil))) (tmpD (dC (.int 0)))))) (dTst (tmpD (dBin eqD (tmpD (dCall 2 s_law_take (aCons (oSlot 0) (aCons (oVal (dC (.int 8))) aNil)))) (tmpD (dC (.int 0)))))))) (dRet (dCall 1 s_law_odd (aCons (oSlot 0) aNil))) sNil)
    (sCons (dPar3 2 3 4 (aCons (tmpD (dCB listD (aCons (oSlot 1) aNil))) (aCons (tmpD (dCall 2 s_law_take (aCons (oSlot 0) (aCons (oVal (dC (.int 10))) aNil)))) (aCons (tmpD (dCall 2 s_law_take (aCons (oSlot 0) (aCons (oVal (dCB lenD (aCons (oSlot 1) aNil))) aNil)))) aNil))))
    (sCons (dIfS (dTst (tmpD (dBin ltD (oSlot 3) (tmpD (dC (.int 7)))))) (dSetIx 2 (oSlot 4) (dCall 2 s_law_bent (aCons (oSlot 0) (aCons (oVal (dBin ixD (oSlot 2) (oSlot 4))) aNil)))) (dSet 2 (dBin ixD (tmpD (dDisp Rs.own (aCons (oVal (dBin addD (tmpD (dSl (oSlot 2) pNone (pSome (oSlot 4)))) (tmpD (dSl (oSlot 2) (pSome (tmpD (dBin addD (oSlot 4) (tmpD (dC (.int 1)))))) pNone)))) (aCons (oVal (dBin addD (oSlot 2) (tmpD (dSl (oSlot 2) (pSome (oSlot 4)) (pSome (tmpD (dBin addD (oSlot 4) (tmpD (dC (.int 1)))))))))) (aCons (oVal (dUn revD (oSlot 2))) aNil))))) (tmpD (dBin subD (oSlot 3) (tmpD (dC (.int 7))))))))
    (dRet (dIfE (dTst (tmpD (dBin eqD (tmpD (dIsi .tuple (oSlot 1))) (tmpD (dBin gtD (tmpD (dCall 2 s_law_take (aCons (oSlot 0) (aCons (oVal (dC (.int 12))) aNil)))) (tmpD (dC (.int 0)))))))) (dCB tupleD (aCons (oSlot 2) aNil)) (dVar 2)))))))
theorem ok_law_bent {P : Program} {w : World} {K : Fg} {mg : Str → Option Value} {base : Heap} {k : Nat} {f_law_bent : Addr} {fd_law_bent : FuncData}  {f_law_take : Addr} {fd_law_take : FuncData} {f_law_one_of : Addr} {fd_law_one_of : FuncData} {f_law_odd : Addr} {fd_law_odd : FuncData} {s_law_take s_law_one_of s_law_odd s_law_bent : DSp} {dsp : DSp}
    (B : Blt mg) (D_law_bent : Dfn K mg "_law_bent" S_law_bent f_law_bent fd_law_bent)   (D_law_take : Dfn K mg "_law_take" S_law_take f_law_take fd_law_take) (D_law_one_of : Dfn K mg "_law_one_of" S_law_one_of f_law_one_of fd_law_one_of) (D_law_odd : Dfn K mg "_law_odd" S_law_odd f_law_odd fd_law_odd)  (F_law_take : FnD P w K mg base k f_law_take fd_law_take P_law_take s_law_take) (F_law_one_of : FnD P w K mg base k f_law_one_of fd_law_one_of P_law_one_of s_law_one_of) (F_law_odd : FnD P w K mg base k f_law_odd fd_law_odd P_law_odd s_law_odd) (F_law_bent : FnD P w K mg base k f_law_bent fd_law_bent P_law_bent s_law_bent) 
    (hlaw : ∀ as pn Q, as.length = 2 → dsp as pn Q → t_law_bent s_law_take s_law_one_of s_law_odd s_law_bent { nx := fun ρ => Q .none ρ.pn, rt := Q } ⟨startD 5 as, pn⟩) : FnD P w K mg base (k + 1) f_law_bent fd_law_bent P_law_bent dsp :=
  FnD.mkD D_law_bent sc_law_bent (fun cdv A outer s H E O => (css_cons (cs_if (ct_w (cw_and (ct_val (ce_isi .int (co_slot 1) (B.get "isinstance") (B.get "int"))) (cw_and1 (ct_cmp od_gt (ce_call F_law_take O D_law_take.m D_law_take.F.kp (bd_law_take D_law_take) (ca_cons (co_slot 0) (ca_cons (co_val ce_int) ca_nil))) ce_int)))) (css_one (cs_ret (ce_call F_law_one_of O D_law_one_of.m D_law_one_of.F.kp (bd_law_one_of D_law_one_of) (ca_cons (co_slot 0) (ca_cons (co_val (ce_lst (ca_cons (co_val (ce_bin od_add (co_slot 1) ce_int)) (ca_cons (co_val (ce_bin od_sub (co_slot 1) ce_int)) (ca_cons (co_val (ce_if (ct_chain od_le od_lt ce_int (co_slot 1) ce_int) (ce_cmp (od_eq O) (co_slot 1) ce_int) (ce_un ud_neg (co_slot 1)))) (ca_cons (co_val (ce_bin od_mulT (co_slot 1) ce_int)) ca_nil)))))) ca_nil))))) css_nil)
    (css_cons (cs_if (ct_w (cw_or (ct_not (ct_val (ce_isi2 .tuple .list (co_slot 1) (B.get "isinstance") (B.get "tuple") (B.get "list")))) (cw_or (ct_cmp (od_eq O) (ce_callB cd_len (B.get "len") b_len (ca_cons (co_slot 1) ca_nil)) ce_int) (cw_or1 (ct_cmp (od_eq O) (ce_call F_law_take O D_law_take.m D_law_take.F.kp (bd_law_take D_law_take) (ca_cons (co_slot 0) (ca_cons (co_val ce_int) ca_nil))) ce_int))))) (css_one (cs_ret (ce_call F_law_odd O D_law_odd.m D_law_odd.F.kp (bd_law_odd D_law_odd) (ca_cons (co_slot 0) ca_nil)))) css_nil)
    (css_cons (cs_par3 2 3 4 O (ca_cons (ce_callTy cd_list (B.get "list") b_list (ca_cons (co_slot 1) ca_nil)) (ca_cons (ce_call F_law_take O D_law_take.m D_law_take.F.kp (bd_law_take D_law_take) (ca_cons (co_slot 0) (ca_cons (co_val ce_int) ca_nil))) (ca_cons (ce_call F_law_take O D_law_take.m D_law_take.F.kp (bd_law_take D_law_take) (ca_cons (co_slot 0) (ca_cons (co_val (ce_callB cd_len (B.get "len") b_len (ca_cons (co_slot 1) ca_nil))) ca_nil))) ca_nil))))
    (css_cons (cs_if (ct_cmp od_lt (co_slot 3) ce_int) (css_one (cs_setIx 2 (co_slot 4) (ce_call F_law_bent O D_law_bent.m D_law_bent.F.kp (bd_law_bent D_law_bent) (ca_cons (co_slot 0) (ca_cons (co_val (ce_sub (co_slot 2) (co_slot 4))) ca_nil))))) (css_one (cs_set 2 O (ce_sub (ce_lst (ca_cons (co_val (ce_bin od_add (ce_slice (co_slot 2) cp_none (cp_some (co_slot 4))) (ce_slice (co_slot 2) (cp_some (ce_bin od_add (co_slot 4) ce_int)) cp_none))) (ca_cons (co_val (ce_bin od_add (co_slot 2) (ce_slice (co_slot 2) (cp_some (co_slot 4)) (cp_some (ce_bin od_add (co_slot 4) ce_int))))) (ca_cons (co_val (ce_rev (co_slot 2))) ca_nil)))) (ce_bin od_sub (co_slot 3) ce_int)))))
    (css_one (cs_ret (ce_if (ct_cmp (od_eq O) (ce_isi .tuple (co_slot 1) (B.get "isinstance") (B.get "tuple")) (ce_cmp od_gt (ce_call F_law_take O D_law_take.m D_law_take.F.kp (bd_law_take D_law_take) (ca_cons (co_slot 0) (ca_cons (co_val ce_int) ca_nil))) ce_int)) (ce_callTy cd_tuple (B.get "tuple") b_tuple (ca_cons (co_slot 2) ca_nil)) (ce_var 2))))))))) hlaw
/-! ### _law_is_scheme: 0 _law_value, 1 _law_one -/
abbrev S_law_is_scheme : Stmt := top 25
abbrev P_law_is_scheme : List Str := ["_law_value"]
abbrev N_law_is_scheme : List Str := ["_law_value", "_law_one"]
theorem sc_law_is_scheme : FnScope N_law_is_scheme P_law_is_scheme (defScope S_law_is_scheme) := ⟨rfl, rfl, rfl, by decide +kernel, rfl, by decide +kernel, by decide +kernel⟩
theorem bd_law_is_scheme {K : Fg} {mg : Str → Option Value} {f : Addr} {fd : FuncData} (D : Dfn K mg "_law_is_scheme" S_law_is_scheme f fd) : Binds K fd P_law_is_scheme [] := D.F.bindsN fun _ _ _ _ _ _ us hl => match us, hl with | [_], _ => rfl
def t_law_is_scheme (s_law_is_integer : DSp) : DS :=
    (sCons (dIfS (dOr (dNot (dTst (tmpD (dIsi .tuple (oSlot 0))))) (dNot (dTst (tmpD (dChain leD leD (tmpD (dC (.int 1))) (tmpD (dCB lenD (aCons (oSlot 0) aNil))) (tmpD (dC (.int 4)))))))) (dRet (dC (.bool false))) sNil)
    (dRet (dBin (inD true) (tmpD (dC (.bool false))) (tmpD (dLc (iSeq (oSlot 0)) (gN 1) dYes (oVal (dCall 3 s_law_is_integer (aCons (oSlot 1) (aCons (oVal (dC (.int 1))) (aCons (oVal (dC (.int 3))) aNil))))) [1])))))
theorem ok_law_is_scheme {P : Program} {w : World} {K : Fg} {mg : Str → Option Value} {base : Heap} {k : Nat} {f_law_is_scheme : Addr} {fd_law_is_scheme : FuncData}  {f_law_is_integer : Addr} {fd_law_is_integer : FuncData} {s_law_is_integer : DSp} {dsp : DSp}
    (B : Blt mg) (D_law_is_scheme : Dfn K mg "_law_is_scheme" S_law_is_scheme f_law_is_scheme fd_law_is_scheme)   (D_law_is_integer : Dfn K mg "_law_is_integer" S_law_is_integer f_law_is_integer fd_law_is_integer)  (F_law_is_integer : FnD P w K mg base k f_law_is_integer fd_law_is_integer P_law_is_integer s_law_is_integer) 
    (hlaw : ∀ as pn Q, as.length = 1 → dsp as pn Q → t_law_is_scheme s_law_is_integer { nx := fun ρ => Q .none ρ.pn, rt := Q } ⟨startD 2 as, pn⟩) : FnD P w K mg base (k + 1) f_law_is_scheme fd_law_is_scheme P_law_is_scheme dsp :=
  FnD.mkD D_law_is_scheme sc_law_is_scheme (fun cdv A outer s H E O => (css_cons (cs_if (ct_w (cw_or (ct_not (ct_val (ce_isi .tuple (co_slot 0) (B.get "isinstance") (B.get "tuple")))) (cw_or1 (ct_not (ct_chain od_le od_le ce_int (ce_callB cd_len (B.get "len") b_len (ca_cons (co_slot 0) ca_nil)) ce_int))))) (css_one (cs_ret ce_bl)) css_nil)
    (css_one (cs_ret (ce_cmp (od_notin O) ce_bl (ce_lc [(("_law_one" : Str), 1)] O (ci_seq (co_slot 0)) (fun _ _ _ _ _ => (cg_n 1 O.blk.nd)) (fun _ _ _ _ _ => cts_nil) (fun _ _ _ _ _ => (co_val (ce_call F_law_is_integer O.blk D_law_is_integer.m D_law_is_integer.F.kp (bd_law_is_integer D_law_is_integer) (ca_cons (co_slot 1) (ca_cons (co_val ce_int) (ca_cons (co_val ce_int) ca_nil)))))))))))) hlaw
/-! ### _law_is_row: 0 _law_columns, 1 _law_value, 2 _law_one -/
abbrev S_law_is_row : Stmt := top 26
abbrev P_law_is_row : List Str := ["_law_columns", "_law_value"]
abbrev N_law_is_row : List Str := ["_law_columns", "_law_value", "_law_one"]
theorem sc_law_is_row : FnScope N_law_is_row P_law_is_row (defScope S_law_is_row) := ⟨rfl, rfl, rfl, by decide +kernel, rfl, by decide +kernel, by decide +kernel⟩
theorem bd_law_is_row {K : Fg} {mg : Str → Option Value} {f : Addr} {fd : FuncData} (D : Dfn K mg "_law_is_row" S_law_is_row f fd) : Binds K fd P_law_is_row [] := D.F.bindsN fun _ _ _ _ _ _ us hl => match us, hl with | [_, _], _ => rfl
def t_law_is_row (s_law_is_integer : DSp) : DS :=
    (sCons (dIfS (dOr (dNot (dTst (tmpD (dIsi .tuple (oSlot 1))))) (dTst (tmpD (dBin neD (tmpD (dCB lenD (aCons (oSlot 1) aNil))) (oSlot 0))))) (dRet (dC (.bool false))) sNil)
    (dRet (dBin (inD true) (tmpD (dC (.bool false))) (tmpD (dLc (iSeq (oSlot 1)) (gN 2) dYes (oVal (dCall 3 s_law_is_integer (aCons (oSlot 2) (aCons (oVal (dC (.int 0))) (aCons (oVal (dC (.int 99))) aNil))))) [2])))))
theorem ok_law_is_row {P : Program} {w : World} {K : Fg} {mg : Str → Option Value} {base : Heap} {k : Nat} {f_law_is_row : Addr} {fd_law_is_row : FuncData}  {f_law_is_integer : Addr} {fd_law_is_integer : FuncData} {s_law_is_integer : DSp} {dsp : DSp}
    (B : Blt mg) (D_law_is_row : Dfn K mg "_law_is_row" S_law_is_row f_law_is_row fd_law_is_row)   (D_law_is_integer : Dfn K mg "_law_is_integer" S_law_is_integer f_law_is_integer fd_law_is_integer)  (F_law_is_integer : FnD P w K mg base k f_law_is_integer fd_law_is_integer P_law_is_integer s_law_is_integer) 
    (hlaw : ∀ as pn Q, as.length = 2 → dsp as pn Q → t_law_is_row s_law_is_integer { nx := fun ρ => Q .none ρ.pn, rt := Q } ⟨startD 3 as, pn⟩) : FnD P w K mg base (k + 1) f_law_is_row fd_law_is_row P_law_is_row dsp :=
  FnD.mkD D_law_is_row sc_law_is_row (fun cdv A outer s H E O => (css_cons (cs_if (ct_w (cw_or (ct_not (ct_val (ce_isi .tuple (co_slot 1) (B.get "isinstance") (B.get "tuple")))) (cw_or1 (ct_cmp (od_ne O) (ce_callB cd_len (B.get "len") b_len (ca_cons (co_slot 1) ca_nil)) (co_slot 0))))) (css_one (cs_ret ce_bl)) css_nil)
    (css_one (cs_ret (ce_cmp (od_notin O) ce_bl (ce_lc [(("_law_one" : Str), 2)] O (ci_seq (co_slot 1)) (fun _ _ _ _ _ => (cg_n 2 O.blk.nd)) (fun _ _ _ _ _ => cts_nil) (fun _ _ _ _ _ => (co_val (ce_call F_law_is_integer O.blk D_law_is_integer.m D_law_is_integer.F.kp (bd_law_is_integer D_law_is_integer) (ca_cons (co_slot 2) (ca_cons (co_val ce_int) (ca_cons (co_val ce_int) ca_nil)))))))))))) hlaw
/-! ### _law_is_database: 0 _law_scheme, 1 _law_value, 2 _law_columns, 3 _law_rows, 4 _law_row -/
abbrev S_law_is_database : Stmt := top 27
abbrev P_law_is_database : List Str := ["_law_scheme", "_law_value"]
abbrev N_law_is_database : List Str := ["_law_scheme", "_law_value", "_law_columns", "_law_rows", "_law_row"]
theorem sc_law_is_database : FnScope N_law_is_database P_law_is_database (defScope S_law_is_database) := ⟨rfl, rfl, rfl, by decide +kernel, rfl, by decide +kernel, by decide +kernel⟩
theorem bd_law_is_database {K : Fg} {mg : Str → Option Value} {f : Addr} {fd : FuncData} (D : Dfn K mg "_law_is_database" S_law_is_database f fd) : Binds K fd P_law_is_database [] := D.F.bindsN fun _ _ _ _ _ _ us hl => match us, hl with | [_, _], _ => rfl
def t_law_is_database (s_law_is_row : DSp) : DS :=
    (sCons (dIfS (dOr (dNot (dTst (tmpD (dIsi .tuple (oSlot 1))))) (dTst (tmpD (dBin neD (tmpD (dCB lenD (aCons (oSlot 1) aNil))) (tmpD (dCB lenD (aCons (oSlot 0) aNil))))))) (dRet (dC (.bool false))) sNil)
    (sCons (dFor (iZp false (aCons (oFix 0) (aCons (oFix 1) aNil))) (gT 2 (gCons (gN 2) (gCons (gN 3) gNil))) (sCons (dIfS (dOr (dNot (dTst (tmpD (dIsi .tuple (oSlot 3))))) (dOr (dTst (tmpD (dBin gtD (tmpD (dCB lenD (aCons (oSlot 3) aNil))) (tmpD (dC (.int 10)))))) (dTst (tmpD (dBin (inD false) (tmpD (dC (.bool false))) (tmpD (dLc (iSeq (oSlot 3)) (gN 4) dYes (oVal (dCall 2 s_law_is_row (aCons (oSlot 2) (aCons (oSlot 4) aNil)))) [4]))))))) (dRet (dC (.bool false))) sNil)
    (dIfS (dTst (tmpD (dBin neD (tmpD (dCB listD (aCons (oSlot 3) aNil))) (tmpD (dCB sortedZ (aCons (oSlot 3) aNil)))))) (dRet (dC (.bool false))) sNil)))
    (dRet (dC (.bool true)))))
theorem ok_law_is_database {P : Program} {w : World} {K : Fg} {mg : Str → Option Value} {base : Heap} {k : Nat} {f_law_is_database : Addr} {fd_law_is_database : FuncData}  {f_law_is_row : Addr} {fd_law_is_row : FuncData} {s_law_is_row : DSp} {dsp : DSp}
    (B : Blt mg) (D_law_is_database : Dfn K mg "_law_is_database" S_law_is_database f_law_is_database fd_law_is_database)   (D_law_is_row : Dfn K mg "_law_is_row" S_law_is_row f_law_is_row fd_law_is_row)  (F_law_is_row : FnD P w K mg base k f_law_is_row fd_law_is_row P_law_is_row s_law_is_row) 
    (hlaw : ∀ as pn Q, as.length = 2 → dsp as pn Q → t_law_is_database s_law_is_row { nx := fun ρ => Q .none ρ.pn, rt := Q } ⟨startD 5 as, pn⟩) : FnD P w K mg base (k + 1) f_law_is_database fd_law_is_database P_law_is_database dsp :=
  FnD.mkD D_law_is_database sc_law_is_database (fun cdv A outer s H E O => (css_cons (cs_if (ct_w (cw_or (ct_not (ct_val (ce_isi .tuple (co_slot 1) (B.get "isinstance") (B.get "tuple")))) (cw_or1 (ct_cmp (od_ne O) (ce_callB cd_len (B.get "len") b_len (ca_cons (co_slot 1) ca_nil)) (ce_callB cd_len (B.get "len") b_len (ca_cons (co_slot 0) ca_nil)))))) (css_one (cs_ret ce_bl)) css_nil)
    (css_cons (cs_for O (ci_zip (B.get "zip") (ca_cons (co_fix 0) (ca_cons (co_fix 1) ca_nil))) (cg_t O (cgs_cons (cg_n 2 O.nd) (cgs_cons (cg_n 3 O.nd) cgs_nil))) (css_cons (cs_if (ct_w (cw_or (ct_not (ct_val (ce_isi .tuple (co_slot 3) (B.get "isinstance") (B.get "tuple")))) (cw_or (ct_cmp od_gt (ce_callB cd_len (B.get "len") b_len (ca_cons (co_slot 3) ca_nil)) ce_int) (cw_or1 (ct_cmp (od_in O) ce_bl (ce_lc [(("_law_row" : Str), 4)] O (ci_seq (co_slot 3)) (fun _ _ _ _ _ => (cg_n 4 O.blk.nd)) (fun _ _ _ _ _ => cts_nil) (fun _ _ _ _ _ => (co_val (ce_call F_law_is_row O.blk D_law_is_row.m D_law_is_row.F.kp (bd_law_is_row D_law_is_row) (ca_cons (co_slot 2) (ca_cons (co_slot 4) ca_nil))))))))))) (css_one (cs_ret ce_bl)) css_nil)
    (css_one (cs_if (ct_cmp (od_ne O) (ce_callTy cd_list (B.get "list") b_list (ca_cons (co_slot 3) ca_nil)) (ce_callB (cd_sortZ O) (B.get "sorted") b_sorted (ca_cons (co_slot 3) ca_nil))) (css_one (cs_ret ce_bl)) css_nil))))
    (css_one (cs_ret ce_bl))))) hlaw
/-! ### _law_are_copies: 0 _law_scheme, 1 _law_value, 2 _law_one -/
abbrev S_law_are_copies : Stmt := top 28
abbrev P_law_are_copies : List Str := ["_law_scheme", "_law_value"]
abbrev N_law_are_copies : List Str := ["_law_scheme", "_law_value", "_law_one"]
theorem sc_law_are_copies : FnScope N_law_are_copies P_law_are_copies (defScope S_law_are_copies) := ⟨rfl, rfl, rfl, by decide +kernel, rfl, by decide +kernel, by decide +kernel⟩
theorem bd_law_are_copies {K : Fg} {mg : Str → Option Value} {f : Addr} {fd : FuncData} (D : Dfn K mg "_law_are_copies" S_law_are_copies f fd) : Binds K fd P_law_are_copies [] := D.F.bindsN fun _ _ _ _ _ _ us hl => match us, hl with | [_, _], _ => rfl
def t_law_are_copies (s_law_is_integer : DSp) : DS :=
    (sCons (dIfS (dNot (dTst (tmpD (dIsi .tuple (oSlot 1))))) (dRet (dC (.bool false))) sNil)
    (sCons (dFor (iSeq (oFix 1)) (gN 2) (sCons (dIfS (dOr (dNot (dTst (tmpD (dIsi .tuple (oSlot 2))))) (dOr (dTst (tmpD (dBin neD (tmpD (dCB lenD (aCons (oSlot 2) aNil))) (tmpD (dC (.int 2)))))) (dNot (dTst (tmpD (dCall 3 s_law_is_integer (aCons (oVal (dBin ixD (oSlot 2) (tmpD (dC (.int 0))))) (aCons (oVal (dC (.int 0))) (aCons (oVal (dBin subD (tmpD (dCB lenD (aCons (oSlot 0) aNil))) (tmpD (dC (.int 1))))) aNil))))))))) (dRet (dC (.bool false))) sNil)
    (dIfS (dNot (dTst (tmpD (dCall 3 s_law_is_integer (aCons (oVal (dBin ixD (oSlot 2) (tmpD (dC (.int 1))))) (aCons (oVal (dC (.int 0))) (aCons (oVal (dBin subD (tmpD (dBin ixD (oSlot 0) (tmpD (dBin ixD (oSlot 2) (tmpD (dC (.int 0))))))) (tmpD (dC (.int 1))))) aNil))))))) (dRet (dC (.bool false))) sNil)))
    (dRet (dBin eqD (tmpD (dUn lsetD (oSlot 1))) (tmpD (dCB lenD (aCons (oSlot 1) aNil)))))))
theorem ok_law_are_copies {P : Program} {w : World} {K : Fg} {mg : Str → Option Value} {base : Heap} {k : Nat} {f_law_are_copies : Addr} {fd_law_are_copies : FuncData}  {f_law_is_integer : Addr} {fd_law_is_integer : FuncData} {s_law_is_integer : DSp} {dsp : DSp}
    (B : Blt mg) (D_law_are_copies : Dfn K mg "_law_are_copies" S_law_are_copies f_law_are_copies fd_law_are_copies)   (D_law_is_integer : Dfn K mg "_law_is_integer" S_law_is_integer f_law_is_integer fd_law_is_integer)  (F_law_is_integer : FnD P w K mg base k f_law_is_integer fd_law_is_integer P_law_is_integer s_law_is_integer) 
    (hlaw : ∀ as pn Q, as.length = 2 → dsp as pn Q → t_law_are_copies s_law_is_integer { nx := fun ρ => Q .none ρ.pn, rt := Q } ⟨startD 3 as, pn⟩) : FnD P w K mg base (k + 1) f_law_are_copies fd_law_are_copies P_law_are_copies dsp :=
  FnD.mkD D_law_are_copies sc_law_are_copies (fun cdv A outer s H E O => (css_cons (cs_if (ct_not (ct_val (ce_isi .tuple (co_slot 1) (B.get "isinstance") (B.get "tuple")))) (css_one (cs_ret ce_bl)) css_nil)
    (css_cons (cs_for O (ci_seq (co_fix 1)) (cg_n 2 O.nd) (css_cons (cs_if (ct_w (cw_or (ct_not (ct_val (ce_isi .tuple (co_slot 2) (B.get "isinstance") (B.get "tuple")))) (cw_or (ct_cmp (od_ne O) (ce_callB cd_len (B.get "len") b_len (ca_cons (co_slot 2) ca_nil)) ce_int) (cw_or1 (ct_not (ct_val (ce_call F_law_is_integer O D_law_is_integer.m D_law_is_integer.F.kp (bd_law_is_integer D_law_is_integer) (ca_cons (co_val (ce_sub (co_slot 2) ce_int)) (ca_cons (co_val ce_int) (ca_cons (co_val (ce_bin od_sub (ce_callB cd_len (B.get "len") b_len (ca_cons (co_slot 0) ca_nil)) ce_int)) ca_nil)))))))))) (css_one (cs_ret ce_bl)) css_nil)
    (css_one (cs_if (ct_not (ct_val (ce_call F_law_is_integer O D_law_is_integer.m D_law_is_integer.F.kp (bd_law_is_integer D_law_is_integer) (ca_cons (co_val (ce_sub (co_slot 2) ce_int)) (ca_cons (co_val ce_int) (ca_cons (co_val (ce_bin od_sub (ce_sub (co_slot 0) (ce_sub (co_slot 2) ce_int)) ce_int)) ca_nil)))))) (css_one (cs_ret ce_bl)) css_nil))))
    (css_one (cs_ret (ce_cmp (od_eq O) (ce_lenSet O (B.get "len") (B.get "set") (co_slot 1)) (ce_callB cd_len (B.get "len") b_len (ca_cons (co_slot 1) ca_nil)))))))) hlaw
/-! ### law: 0 _law_script, 1 _law_pen, 2 _law_turn, 3 _law_scheme, 4 _law_values, 5 _law_value, 6 _law_data, 7 _law_copies, 8 _law_text, 9 _law_row, 10 _law_k, 11 _law_again -/
abbrev S_law : Stmt := top 29
abbrev P_law : List Str := ["_law_script"]
abbrev N_law : List Str := ["_law_script", "_law_pen", "_law_turn", "_law_scheme", "_law_values", "_law_value", "_law_data", "_law_copies", "_law_text", "_law_row", "_law_k", "_law_again"]
theorem sc_law : FnScope N_law P_law (defScope S_law) := ⟨rfl, rfl, rfl, by decide +kernel, rfl, by decide +kernel, by decide +kernel⟩
theorem bd_law {K : Fg} {mg : Str → Option Value} {f : Addr} {fd : FuncData} (D : Dfn K mg "law" S_law f fd) : Binds K fd P_law [] := D.F.bindsN fun _ _ _ _ _ _ us hl => match us, hl with | [_], _ => rfl
def u1_9 (s_law_draw_scheme s_law_draw_copies s_law_draw_database s_law_bent s_law_same s_is_scheme s_law_is_scheme s_law_take s_is_database s_law_is_database s_is_copies s_law_are_copies : DSp) : DS :=
    (dFor (iSeq (tmpD (dBin addD (tmpD (dBin addD (oSlot 4) (tmpD (dDisp Rs.own (aCons (oVal (dUn revD (oSlot 7))) (aCons (oVal (dDisp mkT (aCons (oVal (dDisp mkT (aCons (oVal (dCB lenD (aCons (oSlot 3) aNil))) (aCons (oVal (dC (.int 0))) aNil)))) aNil))) aNil)))))) (tmpD (dLc (iRange1 (tmpD (dC (.int 8)))) (gN 11) dYes (oVal (dCall 2 s_law_bent (aCons (oSlot 1) (aCons (oSlot 7) aNil)))) [11]))))) (gN 5) (sCons (dSet 8 (dCB reprZ (aCons (oSlot 5) aNil)))
    (dIfS (dOr (dNot (dTst (tmpD (dCall 2 s_law_same (aCons (oVal (dCall 2 s_is_copies (aCons (oSlot 3) (aCons (oSlot 5) aNil)))) (aCons (oVal (dCall 2 s_law_are_copies (aCons (oSlot 3) (aCons (oSlot 5) aNil)))) aNil)))))) (dTst (tmpD (dBin neD (tmpD (dCB reprZ (aCons (oSlot 5) aNil))) (oSlot 8))))) (dRet (dC (.bool false))) sNil)))
def u1_8 (s_law_draw_scheme s_law_draw_copies s_law_draw_database s_law_bent s_law_same s_is_scheme s_law_is_scheme s_law_take s_is_database s_law_is_database s_is_copies s_law_are_copies : DSp) : DS :=
    (sCons (dSet 4 (dDisp Rs.own (aCons (oVal (dVar 7)) (aCons (oVal (dBin addD (oSlot 7) (tmpD (dSl (oSlot 7) pNone (pSome (tmpD (dC (.int 1)))))))) (aCons (oVal (dCB listD (aCons (oSlot 7) aNil))) (aCons (oVal (dC .none)) (aCons (oVal (dDisp mkT aNil)) (aCons (oVal (dDisp mkT (aCons (oVal (dDisp mkT (aCons (oVal (dC (.int 0))) (aCons (oVal (dC (.int 0))) aNil)))) aNil))) (aCons (oVal (dDisp mkT (aCons (oVal (dDisp mkT (aCons (oVal (dC (.int 0))) (aCons (oVal (dBin ixD (oSlot 3) (tmpD (dC (.int 0))))) aNil)))) aNil))) aNil)))))))))
    (u1_9 s_law_draw_scheme s_law_draw_copies s_law_draw_database s_law_bent s_law_same s_is_scheme s_law_is_scheme s_law_take s_is_database s_law_is_database s_is_copies s_law_are_copies))
def u1_7 (s_law_draw_scheme s_law_draw_copies s_law_draw_database s_law_bent s_law_same s_is_scheme s_law_is_scheme s_law_take s_is_database s_law_is_database s_is_copies s_law_are_copies : DSp) : DS :=
    (sCons (dFor (iSeq (tmpD (dBin addD (oSlot 4) (tmpD (dLc (iRange1 (tmpD (dC (.int 12)))) (gN 11) dYes (oVal (dCall 2 s_law_bent (aCons (oSlot 1) (aCons (oSlot 6) aNil)))) [11]))))) (gN 5) (sCons (dSet 8 (dCB reprZ (aCons (oSlot 5) aNil)))
    (dIfS (dOr (dNot (dTst (tmpD (dCall 2 s_law_same (aCons (oVal (dCall 2 s_is_database (aCons (oSlot 3) (aCons (oSlot 5) aNil)))) (aCons (oVal (dCall 2 s_law_is_database (aCons (oSlot 3) (aCons (oSlot 5) aNil)))) aNil)))))) (dTst (tmpD (dBin neD (tmpD (dCB reprZ (aCons (oSlot 5) aNil))) (oSlot 8))))) (dRet (dC (.bool false))) sNil)))
    (u1_8 s_law_draw_scheme s_law_draw_copies s_law_draw_database s_law_bent s_law_same s_is_scheme s_law_is_scheme s_law_take s_is_database s_law_is_database s_is_copies s_law_are_copies))
def u1_6 (s_law_draw_scheme s_law_draw_copies s_law_draw_database s_law_bent s_law_same s_is_scheme s_law_is_scheme s_law_take s_is_database s_law_is_database s_is_copies s_law_are_copies : DSp) : DS :=
    (sCons (dSet 4 (dBin addD (oSlot 4) (tmpD (dDisp Rs.own (aCons (oVal (dBin addD (tmpD (dDisp mkT (aCons (oVal (dBin mulT (tmpD (dDisp mkT (aCons (oVal (dVar 9)) aNil))) (tmpD (dC (.int 11))))) aNil))) (tmpD (dSl (oSlot 6) (pSome (tmpD (dC (.int 1)))) pNone)))) (aCons (oVal (dBin addD (tmpD (dBin addD (tmpD (dSl (oSlot 6) pNone (pSome (oSlot 10)))) (tmpD (dDisp mkT (aCons (oVal (dUn revD (tmpD (dBin ixD (oSlot 6) (oSlot 10))))) aNil))))) (tmpD (dSl (oSlot 6) (pSome (tmpD (dBin addD (oSlot 10) (tmpD (dC (.int 1)))))) pNone)))) (aCons (oVal (dBin mulZ (tmpD (dDisp mkT (aCons (oVal (dDisp mkT aNil)) aNil))) (tmpD (dCB lenD (aCons (oSlot 3) aNil))))) aNil)))))))
    (u1_7 s_law_draw_scheme s_law_draw_copies s_law_draw_database s_law_bent s_law_same s_is_scheme s_law_is_scheme s_law_take s_is_database s_law_is_database s_is_copies s_law_are_copies))
def u1_5 (s_law_draw_scheme s_law_draw_copies s_law_draw_database s_law_bent s_law_same s_is_scheme s_law_is_scheme s_law_take s_is_database s_law_is_database s_is_copies s_law_are_copies : DSp) : DS :=
    (sCons (dSet 4 (dDisp Rs.own (aCons (oVal (dVar 6)) (aCons (oVal (dSl (oSlot 6) (pSome (tmpD (dC (.int 1)))) pNone)) (aCons (oVal (dBin addD (oSlot 6) (tmpD (dDisp mkT (aCons (oVal (dDisp mkT aNil)) aNil))))) (aCons (oVal (dCB listD (aCons (oSlot 6) aNil))) (aCons (oVal (dC .none)) (aCons (oVal (dUn revD (oSlot 6))) (aCons (oVal (dBin addD (tmpD (dDisp mkT (aCons (oVal (dBin mulT (tmpD (dDisp mkT (aCons (oVal (dVar 9)) aNil))) (tmpD (dC (.int 10))))) aNil))) (tmpD (dSl (oSlot 6) (pSome (tmpD (dC (.int 1)))) pNone)))) aNil)))))))))
    (u1_6 s_law_draw_scheme s_law_draw_copies s_law_draw_database s_law_bent s_law_same s_is_scheme s_law_is_scheme s_law_take s_is_database s_law_is_database s_is_copies s_law_are_copies))
def u1_4 (s_law_draw_scheme s_law_draw_copies s_law_draw_database s_law_bent s_law_same s_is_scheme s_law_is_scheme s_law_take s_is_database s_law_is_database s_is_copies s_law_are_copies : DSp) : DS :=
    (sCons (dPar2 9 10 (aCons (tmpD (dBin mulZ (tmpD (dDisp mkT (aCons (oVal (dC (.int 0))) aNil))) (tmpD (dBin ixD (oSlot 3) (tmpD (dC (.int 0))))))) (aCons (tmpD (dCall 2 s_law_take (aCons (oSlot 1) (aCons (oVal (dCB lenD (aCons (oSlot 3) aNil))) aNil)))) aNil)))
    (u1_5 s_law_draw_scheme s_law_draw_copies s_law_draw_database s_law_bent s_law_same s_is_scheme s_law_is_scheme s_law_take s_is_database s_law_is_database s_is_copies s_law_are_copies))
def u1_3 (s_law_draw_scheme s_law_draw_copies s_law_draw_database s_law_bent s_law_same s_is_scheme s_law_is_scheme s_law_take s_is_database s_law_is_database s_is_copies s_law_are_copies : DSp) : DS :=
    (sCons (dFor (iSeq (tmpD (dBin addD (oSlot 4) (tmpD (dLc (iRange1 (tmpD (dC (.int 8)))) (gN 11) dYes (oVal (dCall 2 s_law_bent (aCons (oSlot 1) (aCons (oSlot 3) aNil)))) [11]))))) (gN 5) (sCons (dSet 8 (dCB reprZ (aCons (oSlot 5) aNil)))
    (dIfS (dOr (dNot (dTst (tmpD (dCall 2 s_law_same (aCons (oVal (dCall 1 s_is_scheme (aCons (oSlot 5) aNil))) (aCons (oVal (dCall 1 s_law_is_scheme (aCons (oSlot 5) aNil))) aNil)))))) (dTst (tmpD (dBin neD (tmpD (dCB reprZ (aCons (oSlot 5) aNil))) (oSlot 8))))) (dRet (dC (.bool false))) sNil)))
    (u1_4 s_law_draw_scheme s_law_draw_copies s_law_draw_database s_law_bent s_law_same s_is_scheme s_law_is_scheme s_law_take s_is_database s_law_is_database s_is_copies s_law_are_copies))
def u1_2 (s_law_draw_scheme s_law_draw_copies s_law_draw_database s_law_bent s_law_same s_is_scheme s_law_is_scheme s_law_take s_is_database s_law_is_database s_is_copies s_law_are_copies : DSp) : DS :=
    (sCons (dSet 4 (dDisp Rs.own (aCons (oVal (dVar 3)) (aCons (oVal (dBin mulT (oSlot 3) (tmpD (dC (.int 2))))) (aCons (oVal (dCB listD (aCons (oSlot 3) aNil))) (aCons (oVal (dC .none)) (aCons (oVal (dC (.dict []))) (aCons (oVal (dDisp mkT aNil)) (aCons (oVal (dDisp mkT (aCons (oVal (dC (.int 4))) aNil))) (aCons (oVal (dDisp mkT (aCons (oVal (dC (.int 0))) aNil))) (aCons (oVal (dDisp mkT (aCons (oVal (dC (.bool true))) aNil))) (aCons (oVal (dBin addD (oSlot 3) (tmpD (dDisp mkT (aCons (oVal (dC (.int 3))) aNil))))) aNil))))))))))))
    (u1_3 s_law_draw_scheme s_law_draw_copies s_law_draw_database s_law_bent s_law_same s_is_scheme s_law_is_scheme s_law_take s_is_database s_law_is_database s_is_copies s_law_are_copies))
def u1_1 (s_law_draw_scheme s_law_draw_copies s_law_draw_database s_law_bent s_law_same s_is_scheme s_law_is_scheme s_law_take s_is_database s_law_is_database s_is_copies s_law_are_copies : DSp) : DS :=
    (sCons (dPar2 6 7 (aCons (tmpD (dCall 3 s_law_draw_database (aCons (oSlot 1) (aCons (oSlot 3) (aCons (oVal (dC (.int 10))) aNil))))) (aCons (tmpD (dCall 2 s_law_draw_copies (aCons (oSlot 1) (aCons (oSlot 3) aNil)))) aNil)))
    (u1_2 s_law_draw_scheme s_law_draw_copies s_law_draw_database s_law_bent s_law_same s_is_scheme s_law_is_scheme s_law_take s_is_database s_law_is_database s_is_copies s_law_are_copies))
def t_law (s_law_draw_scheme s_law_draw_copies s_law_draw_database s_law_bent s_law_same s_is_scheme s_law_is_scheme s_law_take s_is_database s_law_is_database s_is_copies s_law_are_copies : DSp) : DS :=
    (sCons (dFor (iRange1 (tmpD (dC (.int 4)))) (gN 2) (sCons (dSet 3 (dCall 1 s_law_draw_scheme (aCons (oSlot 1) aNil)))
    (u1_1 s_law_draw_scheme s_law_draw_copies s_law_draw_database s_law_bent s_law_same s_is_scheme s_law_is_scheme s_law_take s_is_database s_law_is_database s_is_copies s_law_are_copies)))
    (dRet (dC (.bool true))))
theorem ok_law {P : Program} {w : World} {K : Fg} {mg : Str → Option Value} {base : Heap} {k : Nat} {f_law : Addr} {fd_law : FuncData} {f_law_open : Addr} {fd_law_open : FuncData} {f_law_draw_scheme : Addr} {fd_law_draw_scheme : FuncData} {f_law_draw_copies : Addr} {fd_law_draw_copies : FuncData} {f_law_draw_database : Addr} {fd_law_draw_database : FuncData} {f_law_bent : Addr} {fd_law_bent : FuncData} {f_law_same : Addr} {fd_law_same : FuncData} {f_is_scheme : Addr} {fd_is_scheme : FuncData} {f_law_is_scheme : Addr} {fd_law_is_scheme : FuncData} {f_law_take : Addr} {fd_law_take : FuncData} {f_is_database : Addr} {fd_is_database : FuncData} {f_law_is_database : Addr} {fd_law_is_database : FuncData} {f_is_copies : Addr} {fd_is_copies : FuncData} {f_law_are_copies : Addr} {fd_law_are_copies : FuncData} {s_law_open s_law_draw_scheme s_law_draw_copies s_law_draw_database s_law_bent s_law_same s_is_scheme s_law_is_scheme s_law_take s_is_database s_law_is_database s_is_copies s_law_are_copies : DSp}
    (B : Blt mg) (D_law : Dfn K mg "law" S_law f_law fd_law)  (D_law_open : Dfn K mg "_law_open" S_law_open f_law_open fd_law_open) (D_law_draw_scheme : Dfn K mg "_law_draw_scheme" S_law_draw_scheme f_law_draw_scheme fd_law_draw_scheme) (D_law_draw_copies : Dfn K mg "_law_draw_copies" S_law_draw_copies f_law_draw_copies fd_law_draw_copies) (D_law_draw_database : Dfn K mg "_law_draw_database" S_law_draw_database f_law_draw_database fd_law_draw_database) (D_law_bent : Dfn K mg "_law_bent" S_law_bent f_law_bent fd_law_bent) (D_law_same : Dfn K mg "_law_same" S_law_same f_law_same fd_law_same) (D_is_scheme : Dfn K mg "is_scheme" S_is_scheme f_is_scheme fd_is_scheme) (D_law_is_scheme : Dfn K mg "_law_is_scheme" S_law_is_scheme f_law_is_scheme fd_law_is_scheme) (D_law_take : Dfn K mg "_law_take" S_law_take f_law_take fd_law_take) (D_is_database : Dfn K mg "is_database" S_is_database f_is_database fd_is_database) (D_law_is_database : Dfn K mg "_law_is_database" S_law_is_database f_law_is_database fd_law_is_database) (D_is_copies : Dfn K mg "is_copies" S_is_copies f_is_copies fd_is_copies) (D_law_are_copies : Dfn K mg "_law_are_copies" S_law_are_copies f_law_are_copies fd_law_are_copies)  (F_law_open : FnD P w K mg base k f_law_open fd_law_open P_law_open s_law_open) (F_law_draw_scheme : FnD P w K mg base k f_law_draw_scheme fd_law_draw_scheme P_law_draw_scheme s_law_draw_scheme) (F_law_draw_copies : FnD P w K mg base k f_law_draw_copies fd_law_draw_copies P_law_draw_copies s_law_draw_copies) (F_law_draw_database : FnD P w K mg base k f_law_draw_database fd_law_draw_database P_law_draw_database s_law_draw_database) (F_law_bent : FnD P w K mg base k f_law_bent fd_law_bent P_law_bent s_law_bent) (F_law_same : FnD P w K mg base k f_law_same fd_law_same P_law_same s_law_same) (F_is_scheme : FnD P w K mg base k f_is_scheme fd_is_scheme P_is_scheme s_is_scheme) (F_law_is_scheme : FnD P w K mg base k f_law_is_scheme fd_law_is_scheme P_law_is_scheme s_law_is_scheme) (F_law_take : FnD P w K mg base k f_law_take fd_law_take P_law_take s_law_take) (F_is_database : FnD P w K mg base k f_is_database fd_is_database P_is_database s_is_database) (F_law_is_database : FnD P w K mg base k f_law_is_database fd_law_is_database P_law_is_database s_law_is_database) (F_is_copies : FnD P w K mg base k f_is_copies fd_is_copies P_is_copies s_is_copies) (F_law_are_copies : FnD P w K mg base k f_law_are_copies fd_law_are_copies P_law_are_copies s_law_are_copies) 
    (hopen : ∀ (ns : List Int) (Q : D → Option Pen → Prop), (∀ cells, Q (penL cells) none) → s_law_open [.scr ns] none Q)
    (hlaw : ∀ cells : List Int, t_law s_law_draw_scheme s_law_draw_copies s_law_draw_database s_law_bent s_law_same s_is_scheme s_law_is_scheme s_law_take s_is_database s_law_is_database s_is_copies s_law_are_copies { nx := fun _ => False, rt := fun d _ => d = .bool true } ⟨law0 12, some ⟨cells, 0, 0⟩⟩) : FnG P w K mg base CX0 (k + 1) f_law fd_law P_law (spLaw K) :=
  law_mk D_law sc_law rfl (by decide) (fun cdv A outer s H E O => (cs_set 1 O (ce_call F_law_open O D_law_open.m D_law_open.F.kp (bd_law_open D_law_open) (ca_cons (co_slot 0) ca_nil)))) (fun cdv A outer s H E O => (css_cons (cs_for O (ci_range1 (B.get "range") ce_int) (cg_n 2 O.nd) (css_cons (cs_set 3 O (ce_call F_law_draw_scheme O D_law_draw_scheme.m D_law_draw_scheme.F.kp (bd_law_draw_scheme D_law_draw_scheme) (ca_cons (co_slot 1) ca_nil)))
    (css_cons (cs_par2t 6 7 O (ca_cons (ce_call F_law_draw_database O D_law_draw_database.m D_law_draw_database.F.kp (bd_law_draw_database D_law_draw_database) (ca_cons (co_slot 1) (ca_cons (co_slot 3) (ca_cons (co_val ce_int) ca_nil)))) (ca_cons (ce_call F_law_draw_copies O D_law_draw_copies.m D_law_draw_copies.F.kp (bd_law_draw_copies D_law_draw_copies) (ca_cons (co_slot 1) (ca_cons (co_slot 3) ca_nil))) ca_nil)))
    (css_cons (cs_set 4 O (ce_lst (ca_cons (co_val (ce_var 3)) (ca_cons (co_val (ce_bin od_mulT (co_slot 3) ce_int)) (ca_cons (co_val (ce_callTy cd_list (B.get "list") b_list (ca_cons (co_slot 3) ca_nil))) (ca_cons (co_val ce_non) (ca_cons (co_val ce_dict0) (ca_cons (co_val (ce_tup ca_nil)) (ca_cons (co_val (ce_tup (ca_cons (co_val ce_int) ca_nil))) (ca_cons (co_val (ce_tup (ca_cons (co_val ce_int) ca_nil))) (ca_cons (co_val (ce_tup (ca_cons (co_val ce_bl) ca_nil))) (ca_cons (co_val (ce_bin od_add (co_slot 3) (ce_tup (ca_cons (co_val ce_int) ca_nil)))) ca_nil))))))))))))
    (css_cons (cs_for O (ci_seq (ce_bin od_add (co_slot 4) (ce_lc [(("_law_again" : Str), 11)] O (ci_range1 (B.get "range") ce_int) (fun _ _ _ _ _ => (cg_n 11 O.blk.nd)) (fun _ _ _ _ _ => cts_nil) (fun _ _ _ _ _ => (co_val (ce_call F_law_bent O.blk D_law_bent.m D_law_bent.F.kp (bd_law_bent D_law_bent) (ca_cons (co_slot 1) (ca_cons (co_slot 3) ca_nil)))))))) (cg_n 5 O.nd) (css_cons (cs_set 8 O (ce_callB (cd_reprZ O) (B.get "repr") b_repr (ca_cons (co_slot 5) ca_nil)))
    (css_one (cs_if (ct_w (cw_or (ct_not (ct_val (ce_call F_law_same O D_law_same.m D_law_same.F.kp (bd_law_same D_law_same) (ca_cons (co_val (ce_call F_is_scheme O D_is_scheme.m D_is_scheme.F.kp (bd_is_scheme D_is_scheme) (ca_cons (co_slot 5) ca_nil))) (ca_cons (co_val (ce_call F_law_is_scheme O D_law_is_scheme.m D_law_is_scheme.F.kp (bd_law_is_scheme D_law_is_scheme) (ca_cons (co_slot 5) ca_nil))) ca_nil))))) (cw_or1 (ct_cmp (od_ne O) (ce_callB (cd_reprZ O) (B.get "repr") b_repr (ca_cons (co_slot 5) ca_nil)) (co_slot 8))))) (css_one (cs_ret ce_bl)) css_nil))))
    (css_cons (cs_par2 9 10 O (ca_cons (ce_bin od_mulZ (ce_tup (ca_cons (co_val ce_int) ca_nil)) (ce_sub (co_slot 3) ce_int)) (ca_cons (ce_call F_law_take O D_law_take.m D_law_take.F.kp (bd_law_take D_law_take) (ca_cons (co_slot 1) (ca_cons (co_val (ce_callB cd_len (B.get "len") b_len (ca_cons (co_slot 3) ca_nil))) ca_nil))) ca_nil)))
    (css_cons (cs_set 4 O (ce_lst (ca_cons (co_val (ce_var 6)) (ca_cons (co_val (ce_slice (co_slot 6) (cp_some ce_int) cp_none)) (ca_cons (co_val (ce_bin od_add (co_slot 6) (ce_tup (ca_cons (co_val (ce_tup ca_nil)) ca_nil)))) (ca_cons (co_val (ce_callTy cd_list (B.get "list") b_list (ca_cons (co_slot 6) ca_nil))) (ca_cons (co_val ce_non) (ca_cons (co_val (ce_rev (co_slot 6))) (ca_cons (co_val (ce_bin od_add (ce_tup (ca_cons (co_val (ce_bin od_mulT (ce_tup (ca_cons (co_val (ce_var 9)) ca_nil)) ce_int)) ca_nil)) (ce_slice (co_slot 6) (cp_some ce_int) cp_none))) ca_nil)))))))))
    (css_cons (cs_set 4 O (ce_bin od_add (co_slot 4) (ce_lst (ca_cons (co_val (ce_bin od_add (ce_tup (ca_cons (co_val (ce_bin od_mulT (ce_tup (ca_cons (co_val (ce_var 9)) ca_nil)) ce_int)) ca_nil)) (ce_slice (co_slot 6) (cp_some ce_int) cp_none))) (ca_cons (co_val (ce_bin od_add (ce_bin od_add (ce_slice (co_slot 6) cp_none (cp_some (co_slot 10))) (ce_tup (ca_cons (co_val (ce_rev (ce_sub (co_slot 6) (co_slot 10)))) ca_nil))) (ce_slice (co_slot 6) (cp_some (ce_bin od_add (co_slot 10) ce_int)) cp_none))) (ca_cons (co_val (ce_bin od_mulZ (ce_tup (ca_cons (co_val (ce_tup ca_nil)) ca_nil)) (ce_callB cd_len (B.get "len") b_len (ca_cons (co_slot 3) ca_nil)))) ca_nil))))))
    (css_cons (cs_for O (ci_seq (ce_bin od_add (co_slot 4) (ce_lc [(("_law_again" : Str), 11)] O (ci_range1 (B.get "range") ce_int) (fun _ _ _ _ _ => (cg_n 11 O.blk.nd)) (fun _ _ _ _ _ => cts_nil) (fun _ _ _ _ _ => (co_val (ce_call F_law_bent O.blk D_law_bent.m D_law_bent.F.kp (bd_law_bent D_law_bent) (ca_cons (co_slot 1) (ca_cons (co_slot 6) ca_nil)))))))) (cg_n 5 O.nd) (css_cons (cs_set 8 O (ce_callB (cd_reprZ O) (B.get "repr") b_repr (ca_cons (co_slot 5) ca_nil)))
    (css_one (cs_if (ct_w (cw_or (ct_not (ct_val (ce_call F_law_same O D_law_same.m D_law_same.F.kp (bd_law_same D_law_same) (ca_cons (co_val (ce_call F_is_database O D_is_database.m D_is_database.F.kp (bd_is_database D_is_database) (ca_cons (co_slot 3) (ca_cons (co_slot 5) ca_nil)))) (ca_cons (co_val (ce_call F_law_is_database O D_law_is_database.m D_law_is_database.F.kp (bd_law_is_database D_law_is_database) (ca_cons (co_slot 3) (ca_cons (co_slot 5) ca_nil)))) ca_nil))))) (cw_or1 (ct_cmp (od_ne O) (ce_callB (cd_reprZ O) (B.get "repr") b_repr (ca_cons (co_slot 5) ca_nil)) (co_slot 8))))) (css_one (cs_ret ce_bl)) css_nil))))
    (css_cons (cs_set 4 O (ce_lst (ca_cons (co_val (ce_var 7)) (ca_cons (co_val (ce_bin od_add (co_slot 7) (ce_slice (co_slot 7) cp_none (cp_some ce_int)))) (ca_cons (co_val (ce_callTy cd_list (B.get "list") b_list (ca_cons (co_slot 7) ca_nil))) (ca_cons (co_val ce_non) (ca_cons (co_val (ce_tup ca_nil)) (ca_cons (co_val (ce_tup (ca_cons (co_val (ce_tup (ca_cons (co_val ce_int) (ca_cons (co_val ce_int) ca_nil)))) ca_nil))) (ca_cons (co_val (ce_tup (ca_cons (co_val (ce_tup (ca_cons (co_val ce_int) (ca_cons (co_val (ce_sub (co_slot 3) ce_int)) ca_nil)))) ca_nil))) ca_nil)))))))))
    (css_one (cs_for O (ci_seq (ce_bin od_add (ce_bin od_add (co_slot 4) (ce_lst (ca_cons (co_val (ce_rev (co_slot 7))) (ca_cons (co_val (ce_tup (ca_cons (co_val (ce_tup (ca_cons (co_val (ce_callB cd_len (B.get "len") b_len (ca_cons (co_slot 3) ca_nil))) (ca_cons (co_val ce_int) ca_nil)))) ca_nil))) ca_nil)))) (ce_lc [(("_law_again" : Str), 11)] O (ci_range1 (B.get "range") ce_int) (fun _ _ _ _ _ => (cg_n 11 O.blk.nd)) (fun _ _ _ _ _ => cts_nil) (fun _ _ _ _ _ => (co_val (ce_call F_law_bent O.blk D_law_bent.m D_law_bent.F.kp (bd_law_bent D_law_bent) (ca_cons (co_slot 1) (ca_cons (co_slot 7) ca_nil)))))))) (cg_n 5 O.nd) (css_cons (cs_set 8 O (ce_callB (cd_reprZ O) (B.get "repr") b_repr (ca_cons (co_slot 5) ca_nil)))
    (css_one (cs_if (ct_w (cw_or (ct_not (ct_val (ce_call F_law_same O D_law_same.m D_law_same.F.kp (bd_law_same D_law_same) (ca_cons (co_val (ce_call F_is_copies O D_is_copies.m D_is_copies.F.kp (bd_is_copies D_is_copies) (ca_cons (co_slot 3) (ca_cons (co_slot 5) ca_nil)))) (ca_cons (co_val (ce_call F_law_are_copies O D_law_are_copies.m D_law_are_copies.F.kp (bd_law_are_copies D_law_are_copies) (ca_cons (co_slot 3) (ca_cons (co_slot 5) ca_nil)))) ca_nil))))) (cw_or1 (ct_cmp (od_ne O) (ce_callB (cd_reprZ O) (B.get "repr") b_repr (ca_cons (co_slot 5) ca_nil)) (co_slot 8))))) (css_one (cs_ret ce_bl)) css_nil)))))))))))))))
    (css_one (cs_ret ce_bl)))) hopen hlaw

end K82
set_option Elab.async false
set_option linter.all false
set_option maxRecDepth 100000
set_option maxHeartbeats 2000000
namespace K82
open PySem PySem.Spec PyProof.Rows L2 Dk
theorem p_spread (as : List Dk.Arg) (pn : Option Pen) (Q : D → Option Pen → Prop) (h : spSpread as pn Q) : t_law_spread { nx := fun ρ => Q .none ρ.pn, rt := Q } ⟨startD 6 as, pn⟩ := by
  obtain ⟨c, a, rfl, h0, h1, h⟩ := h
  unfold t_law_spread
  have k1 : CPow 10 18 := by decide
  have c0 : 0 ≤ c % 1000000007 := Int.emod_nonneg _ (by decide)
  have c1 : c % 1000000007 < 1000000007 := Int.emod_lt_of_pos _ (by decide)
  have e0 : 0 ≤ c % 65537 := Int.emod_nonneg _ (by decide)
  have e1 : c % 65537 < 65537 := Int.emod_lt_of_pos _ (by decide)
  have m := mul_bd (x := c % 1000000007) (y := 2 * a + 69069) (a := 1000000006) (b := 1073810891) c0 (by omega) (by omega) (by omega)
  have q0 : 0 ≤ a % 13 := Int.emod_nonneg _ (by decide)
  have q1 : a % 13 < 13 := Int.emod_lt_of_pos _ (by decide)
  have q2 : 0 ≤ (a + 5) % 13 := Int.emod_nonneg _ (by decide)
  have q3 : (a + 5) % 13 < 13 := Int.emod_lt_of_pos _ (by decide)
  have q4 : 0 ≤ (a + 7) % 13 := Int.emod_nonneg _ (by decide)
  have q5 : (a + 7) % 13 < 13 := Int.emod_lt_of_pos _ (by decide)
  simp [k1]
  split
  · exact h c
  · refine ⟨by decide, cm (by omega) (by omega) h0 (by omega), cm c0 (by omega) (by omega) (by omega), cm h0 (by omega) (by omega) (by omega), pow_bd (by decide) (by decide) (by omega) (by omega), gets_pr rfl q0 q1 fun p p0 p1 => ?_⟩
    generalize (c % 1000000007 * (2 * a + 69069) + a * 40503 + 977) ^ 3 = x1
    simp
    refine ⟨p0, ?_⟩
    have f0 : 0 ≤ x1 % p := Int.emod_nonneg _ (by omega)
    have f1 : x1 % p < p := Int.emod_lt_of_pos _ p0
    generalize x1 % p = y1 at f0 f1 ⊢
    have m2 := mul_bd (x := y1) (y := a + 3) (a := 2147483647) (b := 536870914) f0 (by omega) (by omega) (by omega)
    refine ⟨cm (by omega) (by omega) (by omega) (by omega), pow_bd (by decide) (by decide) (by omega) (by omega), gets_pr rfl q2 q3 fun p2 p20 p21 => ?_⟩
    generalize (y1 * (a + 3) + c % 65537 + 5) ^ 5 = x2
    simp
    refine ⟨p20, ?_⟩
    have g0 : 0 ≤ x2 % p2 := Int.emod_nonneg _ (by omega)
    have g1 : x2 % p2 < p2 := Int.emod_lt_of_pos _ p20
    generalize x2 % p2 = y2 at g0 g1 ⊢
    have w0 : 0 ≤ y1 % 1009 := Int.emod_nonneg _ (by decide)
    have w1 : y1 % 1009 < 1009 := Int.emod_lt_of_pos _ (by decide)
    refine ⟨pow_bd (by decide) (by decide) (by omega) (by omega), gets_pr rfl q4 q5 fun p3 p30 p31 => ?_⟩
    generalize (y2 + y1 % 1009 + a) ^ 3 = x3
    simp
    refine ⟨p30, cm (by omega) (by omega) (by omega) (by omega), cm (by omega) (by omega) (by omega) (by omega), h _⟩
theorem p_take (as : List Dk.Arg) (pn : Option Pen) (Q : D → Option Pen → Prop) (h : spTake as pn Q) : t_law_take spSpread { nx := fun ρ => Q .none ρ.pn, rt := Q } ⟨startD 5 as, pn⟩ := by
  obtain ⟨p, n, b, rfl, rfl, ⟨b0, b1⟩, n0, n1, h⟩ := h
  unfold t_law_take
  have k1 : CPow 10 17 := by decide
  have tail : ∀ c : Int, spSpread [.val (.int c), .val (.int p.at_)] (some ⟨p.cells, p.at_ + 1, p.cur⟩) fun d pn' => gets pn' fun p => gets (D.int? d) fun z => 0 < n ∧ CDivW z n ∧ Q (.int (z % n)) (some { cells := p.cells, at_ := p.at_, cur := z / n }) := fun c =>
    ⟨c, p.at_, rfl, b0, by omega, fun r => ⟨n0, cdiv n0 n1, h _ _ (Int.emod_nonneg _ (by omega)) (Int.emod_lt_of_pos _ n0) ⟨by show 0 ≤ p.at_ + 1; omega, by show p.at_ + 1 + b ≤ _; omega⟩⟩⟩
  have tl : ∀ d ∈ List.map PyData.int p.cells, ∃ c : Int, d = PyData.int c := fun d hd => by
    obtain ⟨c, _, rfl⟩ := List.mem_map.mp hd
    exact ⟨c, rfl⟩
  simp [k1]
  split
  · split
    · rename_i h3
      refine gets_at b0 (by simpa using h3) fun d hd => ?_
      obtain ⟨c, rfl⟩ := tl d hd
      exact tail c
    · split
      · rename_i h4
        refine ⟨cm b0 (by omega) (by decide) (by decide), h4, gets_at (Int.emod_nonneg _ (by omega)) (by rw [List.length_map]; exact Int.emod_lt_of_pos _ (by omega)) fun d hd => ?_⟩
        obtain ⟨c, rfl⟩ := tl d hd
        simp
        exact ⟨by omega, tail _⟩
      · exact tail 0
  · exact ⟨n0, cdiv n0 n1, h _ _ (Int.emod_nonneg _ (by omega)) (Int.emod_lt_of_pos _ n0) ⟨b0, by show p.at_ + b ≤ _; omega⟩⟩
theorem p_open (as : List Dk.Arg) (pn : Option Pen) (Q : D → Option Pen → Prop) (h : spOpen as pn Q) : t_law_open { nx := fun ρ => Q .none ρ.pn, rt := Q } ⟨startD 4 as, pn⟩ := by
  obtain ⟨ns, rfl, rfl, h⟩ := h
  unfold t_law_open
  simp
  have e1 : cutD (ns.map PyData.int) none (some 12) = (ns.take 12).map .int := by rw [List.map_take]; exact cut0 _ 12
  have e2 : ∀ d ∈ cutD (ns.map PyData.int) (some 12) (some 63), (∃ z : Int, d = .int z) ∧ 12 < ns.length := fun d hd => by
    rw [show cutD (ns.map PyData.int) (some 12) (some 63) = _ from cutN _ 12 63] at hd
    have h1 := List.mem_of_mem_drop (List.mem_of_mem_take hd)
    obtain ⟨z, _, rfl⟩ := List.mem_map.mp h1
    refine ⟨⟨z, rfl⟩, ?_⟩
    have := List.length_pos_of_mem hd
    simp at this
    omega
  rw [e1]
  refine ⟨rfl, fun _ => ?_⟩
  refine forW_inv (fun i ρ => ∃ (cells : List Int) (x2 x3 : Sl), cells.length = min 12 ns.length ∧ ρ = ⟨[.scr ns, .own (cells.map .int), x2, x3], none⟩) ?_ ?_ ⟨ns.take 12, .un, .un, by simp, rfl⟩
  · rintro i d ρ hi ⟨cells, x2, x3, hc, rfl⟩ N hN
    rw [enumL_get] at hi
    obtain ⟨c, h1, h2⟩ := Option.map_eq_some_iff.mp hi
    obtain ⟨⟨z, rfl⟩, hl⟩ := e2 c (List.mem_of_getElem? h1)
    subst h2
    have j0 : (0 : Int) ≤ ((0 + i : Nat) : Int) % 12 := Int.emod_nonneg _ (by decide)
    have j1 : ((0 + i : Nat) : Int) % 12 < 12 := Int.emod_lt_of_pos _ (by decide)
    simp at j0 j1 ⊢
    refine gets_at j0 (by rw [List.length_map]; omega) fun e he => ?_
    obtain ⟨y, _, rfl⟩ := List.mem_map.mp he
    simp
    refine gets_ixN j0 (by omega) ?_
    exact hN _ ⟨cells.set ((i : Int) % 12).toNat (y + z), _, _, by simpa using hc, by rw [List.map_set]⟩
  · rintro ρ ⟨cells, x2, x3, hc, rfl⟩
    simp
    exact h cells
theorem p_one_of (as : List Dk.Arg) (pn : Option Pen) (Q : D → Option Pen → Prop) (h : spOneOf as pn Q) : t_law_one_of spTake { nx := fun ρ => Q .none ρ.pn, rt := Q } ⟨startD 2 as, pn⟩ := by
  obtain ⟨p, a, ds, b, rfl, ha, rfl, hb, hne, hl, h⟩ := h
  unfold t_law_one_of
  have hpos : 0 < ds.length := List.length_pos_iff.mpr hne
  have key : ∀ (k : D → Option Pen → Prop), (∀ (i : Int) p', 0 ≤ i → i < ds.length → Bud p' b → k (.int i) (some p')) → spTake [.pen, .val (.int ds.length)] (some p) k := fun k hk => ⟨p, ds.length, b, rfl, rfl, hb, by omega, by omega, hk⟩
  cases a with
  | pen => cases ha
  | scr ns => cases ha
  | ref a => cases ha
  | bor xs =>
    cases ha
    simp
    refine key _ fun i p' h0 h1 hb' => ?_
    simp
    exact gets_at h0 h1 fun d hd => h d hd p' hb'
  | val d =>
    cases d with
    | list xs =>
      cases ha
      simp
      refine key _ fun i p' h0 h1 hb' => ?_
      simp
      exact gets_at h0 h1 fun d hd => h d hd p' hb'
    | tuple xs =>
      cases ha
      simp
      refine key _ fun i p' h0 h1 hb' => ?_
      simp
      exact gets_at h0 h1 fun d hd => h d hd p' hb'
    | _ => cases ha
/-! ### alike in kind and worth -/
theorem p_same (f : Nat) (as : List Dk.Arg) (pn : Option Pen) (Q : D → Option Pen → Prop) (h : spSame (f + 1) as pn Q) : t_law_same (spSame f) { nx := fun ρ => Q .none ρ.pn, rt := Q } ⟨startD 4 as, pn⟩ := by
  obtain ⟨a, b, rfl, ha, hb, hd, h⟩ := h
  have eb : ∀ x y : Bool, eqOk (.bool x) (.bool y) = true := fun x y => by cases x <;> cases y <;> decide
  have ebv : ∀ x y : Bool, PyData.eqv (.bool x) (.bool y) = (x == y) := fun x y => by cases x <;> cases y <;> decide
  have es : ∀ x y : Str, eqOk (.str x) (.str y) = true := fun x y => rfl
  have esv : ∀ x y : Str, PyData.eqv (.str x) (.str y) = sameD (.str x) (.str y) := fun x y => by
    rw [Bool.eq_iff_iff, sameD_iff]
    simp [PyData.eqv]
  have eiv : ∀ x y : Int, (x == y) = sameD (.int x) (.int y) := fun x y => by
    rw [Bool.eq_iff_iff, sameD_iff]
    simp
  have ebb : ∀ x y : Bool, (x == y) = sameD (.bool x) (.bool y) := fun x y => by
    rw [Bool.eq_iff_iff, sameD_iff]
    simp
  have no : ∀ {x y : D}, x ≠ y → Q (.bool (sameD x y)) pn → Q (.bool false) pn := fun hn hq => by rwa [sameD_no hn] at hq
  unfold t_law_same
  cases b with
  | dict _ => cases hb
  | none =>
    cases a with
    | none => simp -implicitDefEqProofs [isNone]; rw [sameD_self] at h; exact h
    | _ => simp -implicitDefEqProofs [isNone]; exact no (by simp) h
  | bool y =>
    cases a with
    | bool x => simp -implicitDefEqProofs [isNone, isi, eb, ebv, ebb]; exact h
    | dict _ => cases ha
    | _ => simp -implicitDefEqProofs [isNone, isi]; exact no (by simp) h
  | int y =>
    cases a with
    | int x => simp -implicitDefEqProofs [isNone, isi, eb, ebv, eiv]; exact h
    | dict _ => cases ha
    | _ => simp -implicitDefEqProofs [isNone, isi, eb, ebv]; exact no (by simp) h
  | str y =>
    cases a with
    | str x => simp -implicitDefEqProofs [isNone, isi, eb, ebv, es, esv]; exact h
    | dict _ => cases ha
    | _ => simp -implicitDefEqProofs [isNone, isi, eb, ebv]; exact no (by simp) h
  | tuple ys =>
    cases a with
    | tuple xs =>
      by_cases hl : xs.length = ys.length
      · simp -implicitDefEqProofs [isNone, isi, eb, ebv, hl, wipeD]
        intro _
        rw [noDi_tuple] at ha hb
        have ha := noDiA_iff.mp ha
        have hb := noDiA_iff.mp hb
        rw [depth_tuple] at hd
        refine lcW_mapB (fun p : D × D => PyData.tuple [p.1, p.2]) (fun p => sameD p.1 p.2) (pairL_zip xs ys) (items2 rfl rfl (zipF_ok rfl rfl (by simp))) (fun p hp N hN => ?_) ?_
        · obtain ⟨q1, q2⟩ := List.of_mem_zip hp
          have hx := depth_mem q1
          simp -implicitDefEqProofs [wipeD]
          cases f with
          | zero => omega
          | succ f =>
            refine ⟨p.1, p.2, rfl, ha _ q1, hb _ q2, by omega, ?_⟩
            simp -implicitDefEqProofs [wipeD]
            exact hN
        · simp -implicitDefEqProofs [unwipe, keepV, wipeD, -List.map_map]
          refine gets_notin ?_
          have e : (((xs.zip ys).map fun p => sameD p.1 p.2).all id) = sameD (.tuple xs) (.tuple ys) := by
            rw [Bool.eq_iff_iff, zip_all_eq hl, sameD_iff]
            simp
          rw [e]
          exact h
      · have hl' : ¬ ((xs.length : Int) = (ys.length : Int)) := by omega
        simp -implicitDefEqProofs [isNone, isi, eb, ebv, hl, hl']
        exact no (by intro e; cases e; exact hl rfl) h
    | dict _ => cases ha
    | _ => simp -implicitDefEqProofs [isNone, isi, eb, ebv]; exact no (by simp) h
  | list ys =>
    cases a with
    | list xs =>
      by_cases hl : xs.length = ys.length
      · simp -implicitDefEqProofs [isNone, isi, eb, ebv, hl, wipeD]
        intro _
        rw [noDi_list] at ha hb
        have ha := noDiA_iff.mp ha
        have hb := noDiA_iff.mp hb
        rw [depth_list] at hd
        refine lcW_mapB (fun p : D × D => PyData.tuple [p.1, p.2]) (fun p => sameD p.1 p.2) (pairL_zip xs ys) (items2 rfl rfl (zipF_ok rfl rfl (by simp))) (fun p hp N hN => ?_) ?_
        · obtain ⟨q1, q2⟩ := List.of_mem_zip hp
          have hx := depth_mem q1
          simp -implicitDefEqProofs [wipeD]
          cases f with
          | zero => omega
          | succ f =>
            refine ⟨p.1, p.2, rfl, ha _ q1, hb _ q2, by omega, ?_⟩
            simp -implicitDefEqProofs [wipeD]
            exact hN
        · simp -implicitDefEqProofs [unwipe, keepV, wipeD, -List.map_map]
          refine gets_notin ?_
          have e : (((xs.zip ys).map fun p => sameD p.1 p.2).all id) = sameD (.list xs) (.list ys) := by
            rw [Bool.eq_iff_iff, zip_all_eq hl, sameD_iff]
            simp
          rw [e]
          exact h
      · have hl' : ¬ ((xs.length : Int) = (ys.length : Int)) := by omega
        simp -implicitDefEqProofs [isNone, isi, eb, ebv, hl, hl']
        exact no (by intro e; cases e; exact hl rfl) h
    | dict _ => cases ha
    | _ => simp -implicitDefEqProofs [isNone, isi, eb, ebv]; exact no (by simp) h
end K82
set_option Elab.async false
set_option linter.all false
set_option maxRecDepth 100000
set_option maxHeartbeats 2000000
namespace K82
open PySem PySem.Spec PyProof.Rows L2 Dk
theorem p_is_integer (as : List Dk.Arg) (pn : Option Pen) (Q : D → Option Pen → Prop) (h : spIsInt as pn Q) : t_is_integer { nx := fun ρ => Q .none ρ.pn, rt := Q } ⟨startD 3 as, pn⟩ := by
  obtain ⟨v, lo, hi, rfl, h⟩ := h
  unfold t_is_integer
  cases v with
  | int i =>
    simp [isi]
    unfold Dk.isInt at h
    split
    · rename_i c; simpa [c] using h
    · rename_i c; simpa [c] using h
  | _ => simpa [isi, Dk.isInt] using h
theorem p_law_is_integer (as : List Dk.Arg) (pn : Option Pen) (Q : D → Option Pen → Prop) (h : spIsInt as pn Q) : t_law_is_integer { nx := fun ρ => Q .none ρ.pn, rt := Q } ⟨startD 3 as, pn⟩ := p_is_integer as pn Q h
theorem in_bools {bs : List Bool} {k : Rs → Prop} (h : k (.val (.bool (!bs.all id)))) : gets (inD false (.bool false) (.list (bs.map .bool))) k := by
  have e : inD false (.bool false) (.list (bs.map .bool)) = some (bl (!bs.all id)) := by
    show (if flatD (.bool false) = true ∧ (bs.map PyData.bool).all flatD = true then some (bl (anyEq (.bool false) (bs.map .bool))) else _) = _
    rw [if_pos ⟨rfl, flat_bools bs⟩, any_false]
  rw [e]
  exact h
/-! ### schemes -/
def schB : D → Bool
  | .tuple ds => decide (1 ≤ ds.length ∧ ds.length ≤ 4) && ds.all fun d => isInt d 1 3
  | _ => false
def spSch : DSp := fun as pn P => ∃ v : D, as = [.val v] ∧ P (.bool (schB v)) pn
theorem p_is_scheme (as : List Dk.Arg) (pn : Option Pen) (Q : D → Option Pen → Prop) (h : spSch as pn Q) : t_is_scheme spIsInt { nx := fun ρ => Q .none ρ.pn, rt := Q } ⟨startD 2 as, pn⟩ := by
  obtain ⟨v, rfl, h⟩ := h
  unfold t_is_scheme
  cases v with
  | tuple ds =>
    by_cases hl : 1 ≤ ds.length ∧ ds.length ≤ 4
    · have hl1 : 1 ≤ (ds.length : Int) := by omega
      have hl2 : (ds.length : Int) ≤ 4 := by omega
      simp -implicitDefEqProofs [isiT, hl1, hl2]
      intro _
      refine lcW_mapB id (fun d => isInt d 1 3) (List.map_id ds).symm rfl (fun d hd N hN => ?_) ?_
      · simp -implicitDefEqProofs [wipeD]
        exact ⟨d, 1, 3, rfl, hN⟩
      · simp -implicitDefEqProofs only [schB, decide_eq_true hl, Bool.true_and] at h
        simp -implicitDefEqProofs [unwipe, keepV, wipeD, -List.map_map]
        simpa -implicitDefEqProofs using h
    · simp -implicitDefEqProofs only [schB, decide_eq_false hl, Bool.false_and] at h
      by_cases h1 : 1 ≤ (ds.length : Int)
      · have h2 : ¬ ((ds.length : Int) ≤ 4) := by omega
        simpa -implicitDefEqProofs [isiT, h1, h2] using h
      · simpa -implicitDefEqProofs [isiT, h1] using h
  | _ => simpa -implicitDefEqProofs [isi, schB] using h
theorem notin_bools {bs : List Bool} {k : Rs → Prop} (h : k (.val (.bool (bs.all id)))) : gets (inD true (.bool false) (.list (bs.map .bool))) k := by
  have e : inD true (.bool false) (.list (bs.map .bool)) = some (bl (bs.all id)) := by
    show (if flatD (.bool false) = true ∧ (bs.map PyData.bool).all flatD = true then some (bl (!anyEq (.bool false) (bs.map .bool))) else _) = _
    rw [if_pos ⟨rfl, flat_bools bs⟩, any_false, Bool.not_not]
  rw [e]
  exact h
theorem p_law_is_scheme (as : List Dk.Arg) (pn : Option Pen) (Q : D → Option Pen → Prop) (h : spSch as pn Q) : t_law_is_scheme spIsInt { nx := fun ρ => Q .none ρ.pn, rt := Q } ⟨startD 2 as, pn⟩ := by
  obtain ⟨v, rfl, h⟩ := h
  unfold t_law_is_scheme
  cases v with
  | tuple ds =>
    by_cases hl : 1 ≤ ds.length ∧ ds.length ≤ 4
    · have hl1 : 1 ≤ (ds.length : Int) := by omega
      have hl2 : (ds.length : Int) ≤ 4 := by omega
      simp -implicitDefEqProofs [isiT, hl1, hl2]
      intro _
      refine lcW_mapB id (fun d => isInt d 1 3) (List.map_id ds).symm rfl (fun d hd N hN => ?_) ?_
      · simp -implicitDefEqProofs [wipeD]
        exact ⟨d, 1, 3, rfl, hN⟩
      · simp -implicitDefEqProofs only [schB, decide_eq_true hl, Bool.true_and] at h
        simp -implicitDefEqProofs [unwipe, keepV, wipeD, -List.map_map, -List.all_map]
        refine notin_bools ?_
        rw [List.all_map]
        exact h
    · simp -implicitDefEqProofs only [schB, decide_eq_false hl, Bool.false_and] at h
      by_cases h1 : 1 ≤ (ds.length : Int)
      · have h2 : ¬ ((ds.length : Int) ≤ 4) := by omega
        simpa -implicitDefEqProofs [isiT, h1, h2] using h
      · simpa -implicitDefEqProofs [isiT, h1] using h
  | _ => simpa -implicitDefEqProofs [isi, schB] using h
/-! ### rows -/
def rowB (c : Int) : D → Bool
  | .tuple ds => decide ((ds.length : Int) = c) && ds.all fun d => isInt d 0 99
  | _ => false
def spRow : DSp := fun as pn P => ∃ (c : Int) (v : D), as = [.val (.int c), .val v] ∧ P (.bool (rowB c v)) pn
theorem p_is_row (as : List Dk.Arg) (pn : Option Pen) (Q : D → Option Pen → Prop) (h : spRow as pn Q) : t_is_row spIsInt { nx := fun ρ => Q .none ρ.pn, rt := Q } ⟨startD 3 as, pn⟩ := by
  obtain ⟨c, v, rfl, h⟩ := h
  unfold t_is_row
  cases v with
  | tuple ds =>
    by_cases hl : (ds.length : Int) = c
    · simp -implicitDefEqProofs [isiT, hl]
      intro _
      refine lcW_mapB id (fun d => isInt d 0 99) (List.map_id ds).symm rfl (fun d hd N hN => ?_) ?_
      · simp -implicitDefEqProofs [wipeD]
        exact ⟨d, 0, 99, rfl, hN⟩
      · simp -implicitDefEqProofs only [rowB, decide_eq_true hl, Bool.true_and] at h
        simp -implicitDefEqProofs [unwipe, keepV, wipeD, -List.map_map]
        simpa -implicitDefEqProofs using h
    · simp -implicitDefEqProofs only [rowB, decide_eq_false hl, Bool.false_and] at h
      simpa -implicitDefEqProofs [isiT, hl] using h
  | _ => simpa -implicitDefEqProofs [isi, rowB] using h
theorem p_law_is_row (as : List Dk.Arg) (pn : Option Pen) (Q : D → Option Pen → Prop) (h : spRow as pn Q) : t_law_is_row spIsInt { nx := fun ρ => Q .none ρ.pn, rt := Q } ⟨startD 3 as, pn⟩ := by
  obtain ⟨c, v, rfl, h⟩ := h
  unfold t_law_is_row
  cases v with
  | tuple ds =>
    by_cases hl : (ds.length : Int) = c
    · simp -implicitDefEqProofs [isiT, hl]
      intro _
      refine lcW_mapB id (fun d => isInt d 0 99) (List.map_id ds).symm rfl (fun d hd N hN => ?_) ?_
      · simp -implicitDefEqProofs [wipeD]
        exact ⟨d, 0, 99, rfl, hN⟩
      · simp -implicitDefEqProofs only [rowB, decide_eq_true hl, Bool.true_and] at h
        simp -implicitDefEqProofs [unwipe, keepV, wipeD, -List.map_map, -List.all_map]
        refine notin_bools ?_
        rw [List.all_map]
        exact h
    · simp -implicitDefEqProofs only [rowB, decide_eq_false hl, Bool.false_and] at h
      simpa -implicitDefEqProofs [isiT, hl] using h
  | _ => simpa -implicitDefEqProofs [isi, rowB] using h
end K82
set_option Elab.async false
set_option linter.all false
set_option maxRecDepth 100000
set_option maxHeartbeats 2000000
namespace K82
open PySem PySem.Spec PyProof.Rows L2 Dk
theorem p_odd (as : List Dk.Arg) (pn : Option Pen) (Q : D → Option Pen → Prop) (h : spOddZ as pn Q) : t_law_odd spOneOf { nx := fun ρ => Q .none ρ.pn, rt := Q } ⟨startD 1 as, pn⟩ := by
  obtain ⟨p, b, rfl, rfl, hb, h⟩ := h
  unfold t_law_odd
  have k2 : CPow 10 20 := by decide
  simp -implicitDefEqProofs [k2]
  refine ⟨p, _, oddZ, b, rfl, rfl, rfl, hb, by decide, by decide, fun d hd p' hb' => h d p' (odd_vz d hd) hb'⟩
def tl : D → Nat
  | .list ds => ds.length
  | .tuple ds => ds.length
  | _ => 0
theorem tl_k {t : Bool} {xs : List D} : tl (mkK t xs) = xs.length := by cases t <;> rfl
theorem vz_tl {h : Nat} {d : D} (z : Vz 40 h d) : tl d ≤ 20 := by
  cases d with
  | list ds => have := z.w; have := len_wgts (xs := ds); rw [wgt_list] at *; show ds.length ≤ 20; omega
  | tuple ds => have := z.w; have := len_wgts (xs := ds); rw [wgt_tuple] at *; show ds.length ≤ 20; omega
  | _ => exact Nat.zero_le _
def spBentL (f : Nat) : DSp := fun as pn P => ∃ (p : Pen) (v : D) (b : Nat), as = [.pen, .val v] ∧ bz v = true ∧ v.depth < f ∧ f ≤ 90 ∧ wgt v ≤ 10000000 ∧ pn = some p ∧ Bud p (b + 6 * f) ∧ ∀ d p', Vz (2 * wgt v + 500) (v.depth + 6) d → tl d ≤ tl v + 20 → Bud p' b → P d (some p')
theorem wgt_at {xs : List D} {i : Nat} {x : D} (h : xs[i]? = some x) : wgts (xs.take i) + (wgt x + 2) + wgts (xs.drop (i + 1)) = wgts xs := by
  have h1 := wgts_take (ds := xs) i
  obtain ⟨hi, e⟩ := List.getElem?_eq_some_iff.mp h
  rw [List.drop_eq_getElem_cons hi, wgts_cons, e] at h1
  omega
theorem bz_mem {xs : List D} (h : bzA xs = true) {d : D} (hd : d ∈ xs) : d.showable = true := bz_show (bzA_iff.mp h d hd)
/-- some of these, in any order, at most twice as heavy -/
theorem vz_sub {t t' : Bool} {xs ys : List D} (hx : bzA xs = true) (h : ∀ d ∈ ys, d ∈ xs) (hw : wgts ys ≤ 2 * wgts xs) : Vz (2 * wgt (mkK t xs) + 500) ((mkK t xs).depth + 6) (mkK t' ys) :=
  Vz.all (fun d hd => bz_mem hx (h d hd)) (by rw [wgtK]; omega) (fun d hd => by rw [depthK]; have := depth_mem (h d hd); omega) (by omega)
theorem p_bent (f : Nat) (as : List Dk.Arg) (pn : Option Pen) (Q : D → Option Pen → Prop) (h : spBentL (f + 1) as pn Q) : t_law_bent spTake spOneOf spOddZ (spBentL f) { nx := fun ρ => Q .none ρ.pn, rt := Q } ⟨startD 5 as, pn⟩ := by
  obtain ⟨p, v, b, rfl, hs, hd, hf, hw, rfl, hb, h⟩ := h
  have hz : sizeLine = 16777216 := sizeLine_eq
  have odd : ∀ q : Pen, Bud q (b + 1) → spOddZ [.pen] (some q) fun d pn' => Q d pn' := fun q hq => ⟨q, b, rfl, rfl, hq, fun d p' hd hp => h d p' (hd.mono (by omega) (by omega)) (by have := vz_tl hd; omega) hp⟩
  unfold t_law_bent
  have seq : ∀ (t : Bool) (xs : List D), v = mkK t xs → (sCons (dIfS (dOr (dNot (dTst (tmpD (dIsi2 .tuple .list (oSlot 1))))) (dOr (dTst (tmpD (dBin eqD (tmpD (dCB lenD (aCons (oSlot 1) aNil))) (tmpD (dC (.int 0)))))) (dTst (tmpD (dBin eqD (tmpD (dCall 2 spTake (aCons (oSlot 0) (aCons (oVal (dC (.int 8))) aNil)))) (tmpD (dC (.int 0)))))))) (dRet (dCall 1 spOddZ (aCons (oSlot 0) aNil))) sNil)
    (sCons (dPar3 2 3 4 (aCons (tmpD (dCB listD (aCons (oSlot 1) aNil))) (aCons (tmpD (dCall 2 spTake (aCons (oSlot 0) (aCons (oVal (dC (.int 10))) aNil)))) (aCons (tmpD (dCall 2 spTake (aCons (oSlot 0) (aCons (oVal (dCB lenD (aCons (oSlot 1) aNil))) aNil)))) aNil))))
    (sCons (dIfS (dTst (tmpD (dBin ltD (oSlot 3) (tmpD (dC (.int 7)))))) (dSetIx 2 (oSlot 4) (dCall 2 (spBentL f) (aCons (oSlot 0) (aCons (oVal (dBin ixD (oSlot 2) (oSlot 4))) aNil)))) (dSet 2 (dBin ixD (tmpD (dDisp Rs.own (aCons (oVal (dBin addD (tmpD (dSl (oSlot 2) pNone (pSome (oSlot 4)))) (tmpD (dSl (oSlot 2) (pSome (tmpD (dBin addD (oSlot 4) (tmpD (dC (.int 1)))))) pNone)))) (aCons (oVal (dBin addD (oSlot 2) (tmpD (dSl (oSlot 2) (pSome (oSlot 4)) (pSome (tmpD (dBin addD (oSlot 4) (tmpD (dC (.int 1)))))))))) (aCons (oVal (dUn revD (oSlot 2))) aNil))))) (tmpD (dBin subD (oSlot 3) (tmpD (dC (.int 7))))))))
    (dRet (dIfE (dTst (tmpD (dBin eqD (tmpD (dIsi .tuple (oSlot 1))) (tmpD (dBin gtD (tmpD (dCall 2 spTake (aCons (oSlot 0) (aCons (oVal (dC (.int 12))) aNil)))) (tmpD (dC (.int 0)))))))) (dCB tupleD (aCons (oSlot 2) aNil)) (dVar 2)))))) { nx := fun ρ => Q .none ρ.pn, rt := Q } ⟨[.pen, .val v, .un, .un, .un], some p⟩ := by
    rintro t xs rfl
    obtain ⟨hx9, hs⟩ := bz_k.mp hs
    have hlen := len_wgts (xs := xs)
    have hwt := hw
    rw [wgtK] at hwt
    rw [depthK] at hd
    have e1 : isi .tuple (mkK t xs) = t := by cases t <;> rfl
    have e2 : (isi .tuple (mkK t xs) || isi .list (mkK t xs)) = true := by cases t <;> rfl
    have e3 : ∀ k : Rs → Prop, gets (lenD [mkK t xs]) k = k (.val (.int xs.length)) := fun k => by cases t <;> rfl
    have e4 : ∀ k : Rs → Prop, gets (listD [mkK t xs]) k = k (.own xs) := fun k => by cases t <;> rfl
    -- the end
    have fin : ∀ (ys : List D) (s2 : Sl) (c3 c4 : Sl) (q : Pen), s2 = .own ys ∨ s2 = .val (.list ys) → (∀ t', Vz (2 * wgt (mkK t xs) + 500) ((mkK t xs).depth + 6) (mkK t' ys)) → ys.length ≤ xs.length + 1 → Bud q (b + 1) →
        (dRet (dIfE (dTst (tmpD (dBin eqD (tmpD (dIsi .tuple (oSlot 1))) (tmpD (dBin gtD (tmpD (dCall 2 spTake (aCons (oSlot 0) (aCons (oVal (dC (.int 12))) aNil)))) (tmpD (dC (.int 0)))))))) (dCB tupleD (aCons (oSlot 2) aNil)) (dVar 2))) { nx := fun ρ => Q .none ρ.pn, rt := Q } ⟨[.pen, .val (mkK t xs), s2, c3, c4], some q⟩ := by
      intro ys s2 c3 c4 q h2 hv hyl hq
      rcases h2 with rfl | rfl <;>
      · simp -implicitDefEqProofs [e1]
        refine ⟨q, 12, b, rfl, rfl, hq, by decide, by decide, fun z q2 z0 z1 hq2 => ?_⟩
        simp -implicitDefEqProofs
        split
        · exact h _ q2 (hv true) (by rw [tl_k (t := t)]; show ys.length ≤ _; omega) hq2
        · exact h _ q2 (hv false) (by rw [tl_k (t := t)]; show ys.length ≤ _; omega) hq2
    by_cases hxs : xs = []
    · subst hxs
      simp -implicitDefEqProofs [e2, ↓e3]
      exact odd p (bud_le hb (by omega))
    · have hpos : 0 < xs.length := List.length_pos_iff.mpr hxs
      have hne : ¬ ((xs.length : Int) = 0) := by omega
      have e2' : ¬ (isi .tuple (mkK t xs) = false ∧ isi .list (mkK t xs) = false) := fun c => by rw [c.1, c.2] at e2; cases e2
      simp -implicitDefEqProofs [e2',  ↓e3, ↓e4, hne, hxs]
      refine ⟨p, 8, b + 6 * f + 5, rfl, rfl, bud_le hb (by omega), by decide, by decide, fun z p1 z0 z1 hp1 => ?_⟩
      try simp -implicitDefEqProofs
      split
      · exact odd p1 (bud_le hp1 (by omega))
      · refine ⟨p1, 10, b + 6 * f + 4, rfl, rfl, hp1, by decide, by decide, fun wy p2 w0 w1 hp2 => ?_⟩
        refine ⟨p2, xs.length, b + 6 * f + 3, rfl, rfl, hp2, by omega, by omega, fun k p3 k0 k1 hp3 => ?_⟩
        have hk : k.toNat < xs.length := by omega
        have hg : xs[k.toNat]? = some xs[k.toNat] := List.getElem?_eq_getElem hk
        have hq := atRi k0 hg
        have hmem : xs[k.toNat] ∈ xs := List.getElem_mem _
        generalize xs[k.toNat] = x at hg hq hmem
        have hxs' : bz x = true := bzA_iff.mp hs x hmem
        have hxw := wgts_mem hmem
        have hxd := depth_mem hmem
        have hwa := wgt_at hg
        have ek : (k + 1).toNat = k.toNat + 1 := by omega
        try simp -implicitDefEqProofs [↓hq]
        split
        · refine ⟨p3, x, b + 1, rfl, hxs', by omega, by omega, by omega, rfl, bud_le hp3 (by omega), fun d p4 hd4 _ hp4 => ?_⟩
          refine gets_ixN k0 (by omega) ?_
          have F := fin (xs.set k.toNat d) (.own (xs.set k.toNat d)) (.val (.int wy)) (.val (.int k)) p4 (.inl rfl) (fun t' => Vz.all (fun e he => ?_) ?_ (fun e he => ?_) (by omega)) (by simp) hp4
          · simp -implicitDefEqProofs at F
            exact F
          · rcases List.mem_or_eq_of_mem_set he with he | rfl
            · exact bz_mem hs he
            · exact hd4.sh
          · have hset : xs.set k.toNat d = xs.take k.toNat ++ d :: xs.drop (k.toNat + 1) := List.set_eq_take_append_cons_drop ▸ by rw [if_pos hk]
            rw [hset, wgts_append, wgts_cons, wgtK]
            have := hd4.w
            omega
          · rw [depthK]
            rcases List.mem_or_eq_of_mem_set he with he | rfl
            · have := depth_mem he; omega
            · have := hd4.dp; omega
        · have mt : ∀ n, ∀ d ∈ xs.take n, d ∈ xs := fun n d hd => List.mem_of_mem_take hd
          have md : ∀ n, ∀ d ∈ xs.drop n, d ∈ xs := fun n d hd => List.mem_of_mem_drop hd
          have c1 := cutTo (xs := xs) k0
          have c2 := cutFrom (xs := xs) (show 0 ≤ k + 1 by omega)
          have c3 : Dk.cutD xs (some k) (some (k + 1)) = [x] := by
            have e := cutN xs k.toNat (k.toNat + 1)
            rw [show ((k.toNat : Nat) : Int) = k by omega, show ((k.toNat + 1 : Nat) : Int) = k + 1 by omega] at e
            rw [e, Nat.min_eq_left (by omega), Nat.min_eq_left (by omega), show k.toNat + 1 - k.toNat = 1 by omega]
            have hgg := hg
            obtain ⟨hi, ei⟩ := List.getElem?_eq_some_iff.mp hgg
            rw [List.drop_eq_getElem_cons hi, ei]
            rfl
          rw [ek] at c2
          rw [c1, c2, c3]
          have l1 : (xs.take k.toNat).length = k.toNat := by rw [List.length_take]; omega
          have l2 : (xs.drop (k.toNat + 1)).length = xs.length - (k.toNat + 1) := by rw [List.length_drop]
          refine ⟨by omega, by simp; omega, gets_at (by omega) (by simp; omega) fun d hd5 => ?_⟩
          simp at hd5
          rcases hd5 with rfl | rfl | rfl
          · have F := fin (xs.take k.toNat ++ xs.drop (k.toNat + 1)) _ (.val (.int wy)) (.val (.int k)) p3 (.inr rfl) (fun t' => vz_sub hs (fun d hd => ?_) (by rw [wgts_append]; omega)) (by simp; omega) (bud_le hp3 (by omega))
            · simp -implicitDefEqProofs at F
              exact F
            rcases List.mem_append.mp hd with hd | hd
            · exact mt _ d hd
            · exact md _ d hd
          · have F := fin (xs ++ [x]) _ (.val (.int wy)) (.val (.int k)) p3 (.inr rfl) (fun t' => vz_sub hs (fun d hd => ?_) (by rw [wgts_append, wgts_cons, wgts_nil]; omega)) (by simp) (bud_le hp3 (by omega))
            · simp -implicitDefEqProofs at F
              exact F
            rcases List.mem_append.mp hd with hd | hd
            · exact hd
            · rw [List.mem_singleton.mp hd]; exact hmem
          · have F := fin xs.reverse _ (.val (.int wy)) (.val (.int k)) p3 (.inr rfl) (fun t' => vz_sub hs (fun d hd => List.mem_reverse.mp hd) (by rw [wgts_reverse]; omega)) (by simp) (bud_le hp3 (by omega))
            simp -implicitDefEqProofs at F
            exact F
  cases v with
  | bool c => cases hs
  | dict kvs => cases hs
  | tuple xs =>
    have := seq true xs rfl
    simp -implicitDefEqProofs [isi] at this ⊢
    exact this
  | list xs =>
    have := seq false xs rfl
    simp -implicitDefEqProofs [isi] at this ⊢
    exact this
  | none =>
    simp -implicitDefEqProofs [isi]
    exact odd p (bud_le hb (by omega))
  | str x =>
    simp -implicitDefEqProofs [isi]
    exact odd p (bud_le hb (by omega))
  | int i =>
    simp -implicitDefEqProofs [isi]
    rw [bz, decide_eq_true_eq] at hs
    refine ⟨p, 4, b + 6 * f + 5, rfl, rfl, bud_le hb (by omega), by decide, by decide, fun z p1 z0 z1 hp1 => ?_⟩
    try simp -implicitDefEqProofs
    have big1 : (10 : Nat) ^ 400 * 1000 < 10 ^ 404 := by decide +kernel
    have big2 : (1 : Nat) ≤ 10 ^ 400 := by decide +kernel
    generalize hP : (10 : Nat) ^ 400 = A at hs big1 big2
    generalize hR : (10 : Nat) ^ 404 = A4 at big1
    have one : ∀ (c : D), (c = .int (i + 1) ∨ c = .int (i - 1) ∨ (∃ u, c = .bool u) ∨ c = .int (-i) ∨ c = .int (i * 1000)) → Vz (2 * wgt (.int i) + 500) 6 c := by
      rintro c (rfl | rfl | ⟨u, rfl⟩ | rfl | rfl)
      · exact vz_int (by rw [hR]; omega) (by omega)
      · exact vz_int (by rw [hR]; omega) (by omega)
      · exact vz_bool (by omega)
      · exact vz_int (by rw [hR]; omega) (by omega)
      · exact vz_int (by rw [hR]; omega) (by omega)
    split
    · have cmw : CMulW i 1000 := by
        refine cmulBig ?_
        rw [hP]; exact hs
      have L1 : ∀ dd : D, (dd = .bool (i == 1) ∨ dd = .int (-i)) → CMulW i 1000 ∧ spOneOf [.pen, .val (.list [.int (i + 1), .int (i - 1), dd, .int (i * 1000)])] (some p1) fun d pn' => Q d pn' := fun dd hdd => by
        refine ⟨cmw, p1, _, _, b, rfl, rfl, rfl, bud_le hp1 (by omega), by simp, by simp, fun d hd q hq => h d q ?_ ?_ hq⟩
        rotate_left
        · simp at hd
          rcases hd with rfl | rfl | rfl | rfl
          · exact Nat.zero_le _
          · exact Nat.zero_le _
          · rcases hdd with rfl | rfl <;> exact Nat.zero_le _
          · exact Nat.zero_le _
        simp at hd
        rcases hd with rfl | rfl | rfl | rfl
        · exact one _ (.inl rfl)
        · exact one _ (.inr (.inl rfl))
        · rcases hdd with rfl | rfl
          · exact one _ (.inr (.inr (.inl ⟨_, rfl⟩)))
          · exact one _ (.inr (.inr (.inr (.inl rfl))))
        · exact one _ (.inr (.inr (.inr (.inr rfl))))
      split
      · split
        · exact L1 _ (.inl rfl)
        · exact L1 _ (.inr rfl)
      · exact L1 _ (.inr rfl)
    · exact odd p1 (bud_le hp1 (by omega))
end K82
set_option Elab.async false
set_option linter.all false
set_option maxRecDepth 100000
set_option maxHeartbeats 2000000
namespace K82
open PySem PySem.Spec PyProof.Rows L2 Dk
/-! ### tables and databases -/
theorem rowB_eq {c : Int} {d : D} (h : rowB c d = true) : ∃ ns : List Int, d = .tuple (ns.map .int) ∧ (ns.length : Int) = c ∧ ∀ x ∈ ns, 0 ≤ x ∧ x ≤ 99 := by
  cases d with
  | tuple ds =>
    simp only [rowB, Bool.and_eq_true, decide_eq_true_eq] at h
    obtain ⟨h1, h2⟩ := h
    have h3 : ds.all isIntD = true := List.all_eq_true.mpr fun d hd => by
      obtain ⟨k, rfl, _⟩ := isInt_some (List.all_eq_true.mp h2 d hd)
      rfl
    refine ⟨ds.map toI, by rw [← isInt_map h3], by rw [List.length_map]; exact h1, fun x hx => ?_⟩
    obtain ⟨d, hd, rfl⟩ := List.mem_map.mp hx
    obtain ⟨k, rfl, k1, k2⟩ := isInt_some (List.all_eq_true.mp h2 d hd)
    exact ⟨k1, k2⟩
  | _ => cases h
theorem rows_eq {c : Int} : ∀ {ds : List D}, ds.all (rowB c) = true → ∃ rs : List (List Int), ds = rs.map (fun r => .tuple (r.map .int)) ∧ ∀ r ∈ rs, (r.length : Int) = c ∧ ∀ x ∈ r, 0 ≤ x ∧ x ≤ 99
  | [], _ => ⟨[], rfl, fun r hr => by cases hr⟩
  | d :: ds, h => by
    rw [List.all_cons, Bool.and_eq_true] at h
    obtain ⟨ns, rfl, h1, h2⟩ := rowB_eq h.1
    obtain ⟨rs, rfl, h3⟩ := rows_eq h.2
    exact ⟨ns :: rs, rfl, fun r hr => by
      rcases List.mem_cons.mp hr with rfl | hr
      · exact ⟨h1, h2⟩
      · exact h3 r hr⟩
theorem canAll2 {ds : List D} (h : ∀ d ∈ ds, d.canLay0 = true) : PyData.canLayAll0 ds = true := by
  induction ds with
  | nil => rfl
  | cons d ds ih =>
    rw [PyData.canLayAll0, h d List.mem_cons_self, ih fun x hx => h x (List.mem_cons_of_mem _ hx)]
    rfl
theorem rows_lay {rs : List (List Int)} {ds : List D} (h : ∀ d ∈ ds, d ∈ rs.map fun r => PyData.tuple (r.map .int)) : SeqAt.shaped (.list ds) = true := by
  have h1 : (PyData.list ds).canLay0 = true := by
    rw [PyData.canLay0]
    exact canAll2 fun d hd => by
      obtain ⟨r, _, rfl⟩ := List.mem_map.mp (h d hd)
      rw [PyData.canLay0]
      exact canLay_ints r
  have h2 : (PyData.list ds).depth ≤ 64 := by
    rw [depth_list]
    have : PyData.depthAll ds ≤ 1 := by
      have := depth_map (xs := ds) (g := fun d => d) (c := 1) fun d hd => by
        obtain ⟨r, _, rfl⟩ := List.mem_map.mp (h d hd)
        exact depth_tupI (ns := r)
      rwa [List.map_id'] at this
    omega
  unfold SeqAt.shaped
  rw [h1, decide_eq_true h2]
  rfl
theorem sort_mem {ds : List D} {d : D} (h : d ∈ sortD ds) : d ∈ ds := (List.mergeSort_perm ds leD0).mem_iff.mp h
def upB (ds : List D) : Bool := PyData.eqv (.list ds) (.list (sortD ds))
def rowsB (c : Int) : D → Bool
  | .tuple ds => decide (ds.length ≤ 10) && (ds.all (rowB c) && upB ds)
  | _ => false
theorem rows_sort {c : Int} {ds : List D} (hc : 1 ≤ c) (h : ds.all (rowB c) = true) : sortOk ds ∧ eqOk (.list ds) (.list (sortD ds)) = true := by
  obtain ⟨rs, rfl, h2⟩ := rows_eq h
  refine ⟨rows_ok (n := c.toNat) (fun r hr => by have := (h2 r hr).1; omega) (by omega), ?_⟩
  unfold eqOk
  rw [rows_lay (rs := rs) fun d hd => hd, rows_lay (rs := rs) fun d hd => sort_mem hd]
  simp
def spRows : DSp := fun as pn P => ∃ (c : Int) (v : D), as = [.val (.int c), .val v] ∧ 1 ≤ c ∧ P (.bool (rowsB c v)) pn
theorem p_are_rows (as : List Dk.Arg) (pn : Option Pen) (Q : D → Option Pen → Prop) (h : spRows as pn Q) : t_are_rows spRow { nx := fun ρ => Q .none ρ.pn, rt := Q } ⟨startD 3 as, pn⟩ := by
  obtain ⟨c, v, rfl, hc, h⟩ := h
  unfold t_are_rows
  cases v with
  | tuple ds =>
    by_cases hl : ds.length ≤ 10
    · have hl' : ¬ (10 < (ds.length : Int)) := by omega
      simp -implicitDefEqProofs [isiT, hl']
      intro _
      refine lcW_mapB id (rowB c) (List.map_id ds).symm rfl (fun d hd N hN => ?_) ?_
      · simp -implicitDefEqProofs [wipeD]
        exact ⟨c, d, rfl, hN⟩
      · simp -implicitDefEqProofs only [rowsB, decide_eq_true hl, Bool.true_and] at h
        simp -implicitDefEqProofs [unwipe, keepV, wipeD, -List.map_map]
        by_cases hb : ds.all (rowB c) = true
        · rw [hb, Bool.true_and] at h
          have hn : ¬ ∃ a, a ∈ ds ∧ rowB c a = false := fun ⟨a, ha, hf⟩ => by rw [List.all_eq_true.mp hb a ha] at hf; cases hf
          rw [if_neg hn]
          obtain ⟨o1, o2⟩ := rows_sort hc hb
          exact ⟨o1, o2, h⟩
        · rw [Bool.eq_false_iff.mpr hb, Bool.false_and] at h
          have he : ∃ a, a ∈ ds ∧ rowB c a = false := by
            obtain ⟨a, ha, hf⟩ := List.all_eq_false.mp (Bool.eq_false_iff.mpr hb)
            exact ⟨a, ha, Bool.eq_false_iff.mpr hf⟩
          rw [if_pos he]
          exact h
    · have hl' : 10 < (ds.length : Int) := by omega
      simp -implicitDefEqProofs only [rowsB, decide_eq_false hl, Bool.false_and] at h
      simpa -implicitDefEqProofs [isiT, hl'] using h
  | _ => simpa -implicitDefEqProofs [isi, rowsB] using h
theorem pairL_id (sch : List Int) (ds : List D) : pairL (sch.map .int) ds = (sch.zip ds).map fun z => PyData.tuple [.int z.1, z.2] := by
  rw [pairL_zip, List.zip_map_left, List.map_map]
  rfl
def dbB (sch : List Int) : D → Bool
  | .tuple ds => decide (ds.length = sch.length) && (sch.zip ds).all fun z => rowsB z.1 z.2
  | _ => false
def spDb : DSp := fun as pn P => ∃ (sch : List Int) (v : D), as = [.val (tupI sch), .val v] ∧ (∀ c ∈ sch, 1 ≤ c) ∧ P (.bool (dbB sch v)) pn
theorem p_is_database (as : List Dk.Arg) (pn : Option Pen) (Q : D → Option Pen → Prop) (h : spDb as pn Q) : t_is_database spRows { nx := fun ρ => Q .none ρ.pn, rt := Q } ⟨startD 4 as, pn⟩ := by
  obtain ⟨sch, v, rfl, hs, h⟩ := h
  unfold t_is_database
  cases v with
  | tuple ds =>
    by_cases hl : ds.length = sch.length
    · have hl' : (ds.length : Int) = (sch.length : Int) := by omega
      simp -implicitDefEqProofs [isiT, hl', tupI, wipeD, -List.map_map]
      refine ⟨hl.symm, fun _ => ?_⟩
      refine lcW_mapB (ts := sch.zip ds) (fun z : Int × D => .tuple [.int z.1, z.2]) (fun z => rowsB z.1 z.2) (pairL_id sch ds) (items2 rfl rfl (zipF_ok rfl rfl (fun _ => by simp [hl]))) (fun z hz N hN => ?_) ?_
      · obtain ⟨z1, z2⟩ := List.of_mem_zip hz
        simp -implicitDefEqProofs [wipeD]
        exact ⟨z.1, z.2, rfl, hs _ z1, hN⟩
      · simp -implicitDefEqProofs only [dbB, decide_eq_true hl, Bool.true_and] at h
        simp -implicitDefEqProofs [unwipe, keepV, wipeD, -List.map_map]
        simpa -implicitDefEqProofs using h
    · have hl' : ¬ (ds.length : Int) = (sch.length : Int) := by omega
      simp -implicitDefEqProofs only [dbB, decide_eq_false hl, Bool.false_and] at h
      simpa -implicitDefEqProofs [isiT, hl', tupI, -List.map_map] using h
  | _ => simpa -implicitDefEqProofs [isi, dbB] using h
theorem p_law_is_database (as : List Dk.Arg) (pn : Option Pen) (Q : D → Option Pen → Prop) (h : spDb as pn Q) : t_law_is_database spRow { nx := fun ρ => Q .none ρ.pn, rt := Q } ⟨startD 5 as, pn⟩ := by
  obtain ⟨sch, v, rfl, hs, h⟩ := h
  unfold t_law_is_database
  cases v with
  | tuple ds =>
    by_cases hl : ds.length = sch.length
    · have hl' : (ds.length : Int) = (sch.length : Int) := by omega
      simp -implicitDefEqProofs only [dbB, decide_eq_true hl, Bool.true_and] at h
      simp -implicitDefEqProofs [isiT, hl', tupI, wipeD, oFix, -List.map_map]
      refine ⟨⟨rfl, rfl⟩, fun _ => ?_⟩
      rw [pairL_id]
      refine forW_inv (fun i ρ => (∀ z ∈ (sch.zip ds).take i, rowsB z.1 z.2 = true) ∧ ∃ x2 x3 : Sl, ρ = ⟨[.val (.tuple (sch.map .int)), .val (.tuple ds), x2, x3, .un], pn⟩) ?_ ?_ ⟨by simp, .un, .un, rfl⟩
      · rintro i d ρ hi ⟨hall, x2, x3, rfl⟩ N hN
        rw [List.getElem?_map] at hi
        obtain ⟨z, hz, rfl⟩ := Option.map_eq_some_iff.mp hi
        have hm := List.mem_of_getElem? hz
        obtain ⟨z1, z2⟩ := List.of_mem_zip hm
        have hc := hs _ z1
        have bad : rowsB z.1 z.2 = false → Q (.bool false) pn := fun hb => by
          rw [show (sch.zip ds).all (fun z => rowsB z.1 z.2) = false from List.all_eq_false.mpr ⟨z, hm, by rw [hb]; simp⟩] at h
          exact h
        have good : rowsB z.1 z.2 = true → ∀ y2 y3 : Sl, N ⟨[.val (.tuple (sch.map .int)), .val (.tuple ds), y2, y3, .un], pn⟩ := fun hb y2 y3 => hN _ ⟨fun z' hz' => by
          rw [take_snocA hz] at hz'
          rcases List.mem_append.mp hz' with hz' | hz'
          · exact hall z' hz'
          · rw [List.mem_singleton.mp hz']; exact hb, y2, y3, rfl⟩
        obtain ⟨c, r⟩ := z
        cases r with
        | tuple rs =>
          by_cases hx : rs.length ≤ 10
          · have hx' : ¬ (10 < (rs.length : Int)) := by omega
            simp -implicitDefEqProofs [wipeD, isiT, hx']
            intro _
            refine lcW_mapB id (rowB c) (List.map_id rs).symm rfl (fun d hd N hN => ?_) ?_
            · simp -implicitDefEqProofs [wipeD]
              exact ⟨c, d, rfl, hN⟩
            · simp -implicitDefEqProofs [unwipe, keepV, wipeD, -List.map_map, -List.all_map]
              refine in_bools ?_
              rw [List.all_map]
              cases hb : rs.all (id ∘ rowB c) with
              | false =>
                have := bad (by
                  show (decide (rs.length ≤ 10) && (rs.all (rowB c) && upB rs)) = false
                  rw [show rs.all (rowB c) = false from hb]
                  simp)
                simpa -implicitDefEqProofs using this
              | true =>
                have hb : rs.all (rowB c) = true := hb
                obtain ⟨o1, o2⟩ := rows_sort hc hb
                simp -implicitDefEqProofs [o2]
                refine ⟨o1, ?_⟩
                cases hu : upB rs with
                | false =>
                  have := bad (by
                    show (decide (rs.length ≤ 10) && (rs.all (rowB c) && upB rs)) = false
                    rw [hu]
                    simp)
                  have hu : PyData.eqv (.list rs) (.list (sortD rs)) = false := hu
                  simpa -implicitDefEqProofs [hu] using this
                | true =>
                  have := good (by
                    show (decide (rs.length ≤ 10) && (rs.all (rowB c) && upB rs)) = true
                    rw [hu, hb, decide_eq_true hx]
                    rfl)
                  have hu : PyData.eqv (.list rs) (.list (sortD rs)) = true := hu
                  simp -implicitDefEqProofs [hu]
                  exact this _ _
          · have hx' : 10 < (rs.length : Int) := by omega
            have := bad (by
              show (decide (rs.length ≤ 10) && (rs.all (rowB c) && upB rs)) = false
              rw [decide_eq_false hx]
              rfl)
            simpa -implicitDefEqProofs [wipeD, isiT, hx'] using this
        | _ =>
          have := bad rfl
          simpa -implicitDefEqProofs [isi] using this
      · rintro ρ ⟨hall, x2, x3, rfl⟩
        rw [List.length_map, List.take_length] at hall
        rw [show (sch.zip ds).all (fun z => rowsB z.1 z.2) = true from List.all_eq_true.mpr hall] at h
        simpa -implicitDefEqProofs using h
    · have hl' : ¬ (ds.length : Int) = (sch.length : Int) := by omega
      simp -implicitDefEqProofs only [dbB, decide_eq_false hl, Bool.false_and] at h
      simpa -implicitDefEqProofs [isiT, hl', tupI, -List.map_map] using h
  | _ => simpa -implicitDefEqProofs [isi, dbB] using h
end K82
set_option Elab.async false
set_option linter.all false
set_option maxRecDepth 100000
set_option maxHeartbeats 2000000
namespace K82
open PySem PySem.Spec PyProof.Rows L2 Dk
/-! ### copies -/
def copyB (sch : List Int) : D → Bool
  | .tuple [a, b] => isInt a 0 ((sch.length : Int) - 1) && isInt b 0 (gI sch (toI a).toNat - 1)
  | _ => false
def toIs : D → List Int
  | .tuple ds => ds.map toI
  | _ => []
def copiesB (sch : List Int) : D → Bool
  | .tuple ds => ds.all (copyB sch) && decide ((uniqL (ds.map toIs)).length = ds.length)
  | _ => false
theorem sch_at {sch : List Int} {k : Int} (h0 : 0 ≤ k) (h1 : k ≤ (sch.length : Int) - 1) (K : D → Prop) : gets (atI (sch.map PyData.int) k) K = K (.int (gI sch k.toNat)) := by
  have hk : k.toNat < sch.length := by omega
  exact atRi h0 (gIat hk) K
theorem eq_nat (a b : Nat) : ((a : Int) == (b : Int)) = decide (a = b) := by
  rw [Bool.eq_iff_iff, beq_iff_eq, decide_eq_true_eq]
  omega
theorem copyB_eq {sch : List Int} {d : D} (h : copyB sch d = true) : d = .tuple ((toIs d).map .int) := by
  unfold copyB at h
  split at h
  · rename_i a b
    rw [Bool.and_eq_true] at h
    obtain ⟨x, rfl, _⟩ := isInt_some h.1
    obtain ⟨y, rfl, _⟩ := isInt_some h.2
    rfl
  · cases h
theorem copies_eq {sch : List Int} {ds : List D} (h : ds.all (copyB sch) = true) : ds = (ds.map toIs).map fun ns => .tuple (ns.map .int) := by
  rw [List.map_map]
  conv => lhs; rw [← List.map_id ds]
  exact List.map_congr_left fun d hd => copyB_eq (List.all_eq_true.mp h d hd)
def spCopy : DSp := fun as pn P => ∃ (sch : List Int) (v : D), as = [.val (tupI sch), .val v] ∧ P (.bool (copyB sch v)) pn
theorem p_is_copy (as : List Dk.Arg) (pn : Option Pen) (Q : D → Option Pen → Prop) (h : spCopy as pn Q) : t_is_copy spIsInt { nx := fun ρ => Q .none ρ.pn, rt := Q } ⟨startD 2 as, pn⟩ := by
  obtain ⟨sch, v, rfl, h⟩ := h
  unfold t_is_copy
  cases v with
  | tuple xs =>
    match xs, h with
    | [], h => simpa -implicitDefEqProofs [isi, copyB] using h
    | [_], h => simpa -implicitDefEqProofs [isi, copyB] using h
    | x :: y :: z :: r, h =>
      simp -implicitDefEqProofs only [copyB] at h
      simp -implicitDefEqProofs [isi]
      rw [if_neg (by omega)]
      exact h
    | [a, b], h =>
      simp -implicitDefEqProofs [isiT, tupI]
      refine ⟨a, 0, _, rfl, ?_⟩
      simp -implicitDefEqProofs only [copyB] at h
      cases ha : isInt a 0 ((sch.length : Int) - 1) with
      | false =>
        rw [ha] at h
        simpa -implicitDefEqProofs using h
      | true =>
        rw [ha, Bool.true_and] at h
        obtain ⟨k, rfl, k0, k1⟩ := isInt_some ha
        have hq := fun K => sch_at k0 k1 K
        simp -implicitDefEqProofs [↓hq]
        exact ⟨b, 0, _, rfl, h⟩
  | _ => simpa -implicitDefEqProofs [isi, copyB] using h
def spCopies : DSp := fun as pn P => ∃ (sch : List Int) (v : D), as = [.val (tupI sch), .val v] ∧ (∀ ds, v = .tuple ds → ds.length < 64) ∧ P (.bool (copiesB sch v)) pn
theorem p_is_copies (as : List Dk.Arg) (pn : Option Pen) (Q : D → Option Pen → Prop) (h : spCopies as pn Q) : t_is_copies spCopy { nx := fun ρ => Q .none ρ.pn, rt := Q } ⟨startD 3 as, pn⟩ := by
  obtain ⟨sch, v, rfl, hf, h⟩ := h
  unfold t_is_copies
  cases v with
  | tuple ds =>
    have hf := hf ds rfl
    simp -implicitDefEqProofs [isiT, wipeD, -List.map_map]
    intro _
    refine lcW_mapB id (copyB sch) (List.map_id ds).symm rfl (fun d hd N hN => ?_) ?_
    · simp -implicitDefEqProofs [wipeD]
      exact ⟨sch, d, rfl, hN⟩
    · simp -implicitDefEqProofs [unwipe, keepV, wipeD, -List.map_map]
      by_cases hb : ds.all (copyB sch) = true
      · have hn : ¬ ∃ a, a ∈ ds ∧ copyB sch a = false := fun ⟨a, ha, hf⟩ => by rw [List.all_eq_true.mp hb a ha] at hf; cases hf
        simp -implicitDefEqProofs only [copiesB, hb, Bool.true_and] at h
        have e := copies_eq hb
        generalize ds.map toIs = nss at e h
        subst e
        rw [List.length_map] at hf h
        rw [if_neg hn]
        simp -implicitDefEqProofs [-List.map_map]
        rw [eq_nat]
        exact ⟨hf, h⟩
      · have he : ∃ a, a ∈ ds ∧ copyB sch a = false := by
          obtain ⟨a, ha, hf⟩ := List.all_eq_false.mp (Bool.eq_false_iff.mpr hb)
          exact ⟨a, ha, Bool.eq_false_iff.mpr hf⟩
        simp -implicitDefEqProofs only [copiesB, Bool.eq_false_iff.mpr hb, Bool.false_and] at h
        rw [if_pos he]
        exact h
  | _ => simpa -implicitDefEqProofs [isi, copiesB] using h
theorem p_law_are_copies (as : List Dk.Arg) (pn : Option Pen) (Q : D → Option Pen → Prop) (h : spCopies as pn Q) : t_law_are_copies spIsInt { nx := fun ρ => Q .none ρ.pn, rt := Q } ⟨startD 3 as, pn⟩ := by
  obtain ⟨sch, v, rfl, hf, h⟩ := h
  unfold t_law_are_copies
  cases v with
  | tuple ds =>
    have hf := hf ds rfl
    simp -implicitDefEqProofs [isiT, oFix, -List.map_map]
    refine ⟨rfl, fun _ => ?_⟩
    refine forW_inv (fun i ρ => (∀ d ∈ ds.take i, copyB sch d = true) ∧ ∃ x2 : Sl, ρ = ⟨[.val (tupI sch), .val (.tuple ds), x2], pn⟩) ?_ ?_ ⟨by simp, .un, rfl⟩
    · rintro i d ρ hi ⟨hall, x2, rfl⟩ N hN
      have hd := List.mem_of_getElem? hi
      have bad : copyB sch d = false → Q (.bool false) pn := fun hb => by
        simp -implicitDefEqProofs only [copiesB, show ds.all (copyB sch) = false from List.all_eq_false.mpr ⟨d, hd, by rw [hb]; simp⟩, Bool.false_and] at h
        exact h
      have good : copyB sch d = true → ∀ y2 : Sl, N ⟨[.val (tupI sch), .val (.tuple ds), y2], pn⟩ := fun hb y2 => hN _ ⟨fun z hz => by
        rw [take_snocA hi] at hz
        rcases List.mem_append.mp hz with hz | hz
        · exact hall z hz
        · rw [List.mem_singleton.mp hz]; exact hb, y2, rfl⟩
      cases d with
      | tuple xs =>
        match xs, bad, good with
        | [], bad, good => simpa -implicitDefEqProofs [isi] using bad rfl
        | [_], bad, good => simpa -implicitDefEqProofs [isi] using bad rfl
        | x :: y :: z :: r, bad, good =>
          have := bad rfl
          simp -implicitDefEqProofs [isi]
          rw [if_neg (by omega)]
          exact this
        | [a, b], bad, good =>
          simp -implicitDefEqProofs [isiT, tupI]
          refine ⟨a, 0, _, rfl, ?_⟩
          cases ha : isInt a 0 ((sch.length : Int) - 1) with
          | false =>
            have := bad (by show (_ && _) = false; rw [ha]; rfl)
            simpa -implicitDefEqProofs using this
          | true =>
            obtain ⟨k, rfl, k0, k1⟩ := isInt_some ha
            have hq := fun K => sch_at k0 k1 K
            simp -implicitDefEqProofs [↓hq]
            refine ⟨b, 0, _, rfl, ?_⟩
            cases hb : isInt b 0 (gI sch k.toNat - 1) with
            | false =>
              have := bad (by show (_ && isInt b 0 (gI sch k.toNat - 1)) = false; rw [hb, Bool.and_false])
              simpa -implicitDefEqProofs using this
            | true =>
              have := good (by show (isInt (.int k) 0 ((sch.length : Int) - 1) && isInt b 0 (gI sch k.toNat - 1)) = true; rw [ha, hb]; rfl)
              simp -implicitDefEqProofs
              exact this _
      | _ =>
        have := bad rfl
        simpa -implicitDefEqProofs [isi] using this
    · rintro ρ ⟨hall, x2, rfl⟩
      rw [List.take_length] at hall
      have hb : ds.all (copyB sch) = true := List.all_eq_true.mpr hall
      simp -implicitDefEqProofs only [copiesB, hb, Bool.true_and] at h
      have e := copies_eq hb
      generalize ds.map toIs = nss at e h
      subst e
      rw [List.length_map] at hf h
      simp -implicitDefEqProofs [-List.map_map]
      rw [eq_nat]
      exact ⟨hf, h⟩
  | _ => simpa -implicitDefEqProofs [isi, copiesB] using h
end K82
set_option Elab.async false
set_option linter.all false
set_option maxRecDepth 100000
set_option maxHeartbeats 2000000
namespace K82
open PySem PySem.Spec PyProof.Rows L2 Dk
/-! ### schemes, databases and copies drawn -/
structure SchOk (sch : List Int) : Prop where
  n0 : 1 ≤ sch.length
  n1 : sch.length ≤ 4
  c : ∀ x ∈ sch, 1 ≤ x ∧ x ≤ 3
theorem ints_R {R : Int → Prop} {acc : List D} (h : ∀ d ∈ acc, ∃ c : Int, d = .int c ∧ R c) : ∃ ns : List Int, acc = ns.map .int ∧ ns.length = acc.length ∧ ∀ x ∈ ns, R x := by
  induction acc with
  | nil => exact ⟨[], rfl, rfl, fun x hx => by cases hx⟩
  | cons d acc ih =>
    obtain ⟨c, rfl, hc⟩ := h d List.mem_cons_self
    obtain ⟨ns, rfl, h1, h2⟩ := ih fun d hd => h d (List.mem_cons_of_mem _ hd)
    exact ⟨c :: ns, rfl, by simp, fun x hx => by
      rcases List.mem_cons.mp hx with rfl | hx
      · exact hc
      · exact h2 x hx⟩
def spDrawSch : DSp := fun as pn P => ∃ (p : Pen) (b : Nat), as = [.pen] ∧ pn = some p ∧ Bud p (b + 5) ∧ ∀ sch p', SchOk sch → Bud p' b → P (tupI sch) (some p')
theorem p_draw_scheme (as : List Dk.Arg) (pn : Option Pen) (Q : D → Option Pen → Prop) (h : spDrawSch as pn Q) : t_law_draw_scheme spTake { nx := fun ρ => Q .none ρ.pn, rt := Q } ⟨startD 2 as, pn⟩ := by
  obtain ⟨p, b, rfl, rfl, hb, h⟩ := h
  unfold t_law_draw_scheme
  simp -implicitDefEqProofs [wipeD]
  refine ⟨p, 4, b + 4, rfl, rfl, hb, by decide, by decide, fun n p1 n0 n1 hp1 => ?_⟩
  have hz : sizeLine = 16777216 := sizeLine_eq
  obtain ⟨k, hk, k1, k4⟩ : ∃ k : Nat, 1 + n = (k : Int) ∧ 1 ≤ k ∧ k ≤ 4 := ⟨(1 + n).toNat, by omega, by omega, by omega⟩
  show gets (some (Rs.val (.int (1 + n)))) _
  rw [hk]
  simp -implicitDefEqProofs [wipeD]
  refine ⟨by omega, fun _ => ?_⟩
  refine lcW_draw (fun d => ∃ c : Int, d = .int c ∧ 1 ≤ c ∧ c ≤ 3) k b 1 (by simp [rangeD_len]) rfl (bud_le hp1 (by omega)) (fun i d hi q b' hq hb' N hN => ?_) (fun acc q hl hR hq => ?_)
  · simp -implicitDefEqProofs [wipeD]
    refine ⟨q, 3, b', rfl, rfl, hq, by decide, by decide, fun c q2 c0 c1 hq2 => ?_⟩
    simp -implicitDefEqProofs [wipeD]
    exact hN _ _ ⟨_, rfl, by omega, by omega⟩ hq2
  · obtain ⟨ns, rfl, h1, h2⟩ := ints_R hR
    simp -implicitDefEqProofs [unwipe, keepV, wipeD, -List.map_map]
    exact h ns q ⟨by omega, by omega, h2⟩ hq
def rowsD (rs : List (List Int)) : D := .tuple (rs.map fun r => .tuple (r.map .int))
def RowsOk (rs : List (List Int)) : Prop := rs.length ≤ 10 ∧ ∀ r ∈ rs, r.length ≤ 3 ∧ ∀ x ∈ r, 0 ≤ x ∧ x ≤ 99
def dataD (rss : List (List (List Int))) : D := .tuple (rss.map rowsD)
def spDrawDb : DSp := fun as pn P => ∃ (p : Pen) (sch : List Int) (b : Nat), as = [.pen, .val (tupI sch), .val (.int 10)] ∧ SchOk sch ∧ pn = some p ∧ Bud p (b + 210) ∧ ∀ rss p', rss.length = sch.length → (∀ rs ∈ rss, RowsOk rs) → Bud p' b → P (dataD rss) (some p')
theorem rows_R {c : Int} {acc : List D} (h : ∀ d ∈ acc, rowB c d = true) : ∃ rs : List (List Int), acc = rs.map (fun r => .tuple (r.map .int)) ∧ ∀ r ∈ rs, (r.length : Int) = c ∧ ∀ x ∈ r, 0 ≤ x ∧ x ≤ 99 := rows_eq (List.all_eq_true.mpr h)
theorem p_draw_database (as : List Dk.Arg) (pn : Option Pen) (Q : D → Option Pen → Prop) (h : spDrawDb as pn Q) : t_law_draw_database spOneOf spTake { nx := fun ρ => Q .none ρ.pn, rt := Q } ⟨startD 10 as, pn⟩ := by
  obtain ⟨p, sch, b, rfl, S, rfl, hb, h⟩ := h
  unfold t_law_draw_database
  have hz : sizeLine = 16777216 := sizeLine_eq
  have s1 := S.n1
  simp -implicitDefEqProofs [wipeD]
  refine ⟨p, _, [.int 2, .int 3, .int 3, .int 100], b + 209, rfl, rfl, rfl, hb, by simp, by simp, fun d hd p1 hp1 => ?_⟩
  obtain ⟨g, rfl, g0, g1⟩ : ∃ g : Int, d = .int g ∧ 1 ≤ g ∧ g ≤ 100 := by
    simp at hd
    rcases hd with rfl | rfl | rfl <;> exact ⟨_, rfl, by decide, by decide⟩
  simp -implicitDefEqProofs [wipeD, oFix, tupI, -List.map_map]
  refine ⟨rfl, fun _ => ?_⟩
  refine forW_inv (fun i ρ => ∃ (q : Pen) (rss : List (List (List Int))) (x3 x6 x7 x8 x9 : Sl), ρ = ⟨[.pen, .val (.tuple (sch.map .int)), .val (.int 10), x3, .val (.int g), .own (rss.map rowsD), x6, x7, x8, x9], some q⟩ ∧ rss.length = i ∧ i ≤ sch.length ∧ (∀ rs ∈ rss, RowsOk rs) ∧ Bud q (b + 52 * (sch.length - i))) ?_ ?_ ⟨p1, [], _, _, _, _, _, rfl, rfl, Nat.zero_le _, (fun rs hr => by cases hr), bud_le hp1 (by omega)⟩
  · rintro i d ρ hi ⟨q, rss, x3, x6, x7, x8, x9, rfl, hl, hle, hR, hq⟩ N hN
    rw [List.getElem?_map] at hi
    obtain ⟨c, hc, rfl⟩ := Option.map_eq_some_iff.mp hi
    have hil := (List.getElem?_eq_some_iff.mp hc).1
    obtain ⟨c0, c1⟩ := S.c c (List.mem_of_getElem? hc)
    simp -implicitDefEqProofs [wipeD, -List.map_map]
    refine ⟨q, 11, b + 52 * (sch.length - (i + 1)) + 51, rfl, rfl, bud_le hq (by omega), by decide, by decide, fun n q1 n0 n1 hq1 => ?_⟩
    simp -implicitDefEqProofs [wipeD, -List.map_map]
    refine ⟨by omega, fun _ => ?_⟩
    refine forW_inv (fun j ρ => ∃ (q : Pen) (rows : List D) (x7 x8 x9 : Sl), ρ = ⟨[.pen, .val (.tuple (sch.map .int)), .val (.int 10), .val (.int c), .val (.int g), .own (rss.map rowsD), .own rows, x7, x8, x9], some q⟩ ∧ rows.length = j ∧ j ≤ n.toNat ∧ (∀ d ∈ rows, rowB c d = true) ∧ Bud q (b + 52 * (sch.length - (i + 1)) + 1 + 5 * (n.toNat - j))) ?_ ?_ ⟨q1, [], _, _, _, rfl, rfl, Nat.zero_le _, (fun rs hr => by cases hr), bud_le hq1 (by omega)⟩
    · rintro j d ρ hj ⟨q, rows, x7, x8, x9, rfl, hl2, hle2, hR2, hq⟩ N2 hN2
      obtain ⟨hjl, rfl⟩ := rangeD_get hj
      simp -implicitDefEqProofs [wipeD, -List.map_map]
      refine ⟨by omega, fun _ => ?_⟩
      refine lcW_draw (fun d => ∃ x : Int, d = .int x ∧ 0 ≤ x ∧ x ≤ 99) c.toNat (b + 52 * (sch.length - (i + 1)) + 1 + 5 * (n.toNat - (j + 1)) + 2) 1 (by simp [rangeD_len]) rfl (bud_le hq (by omega)) (fun i' d hi' q' b' hq' hb' N3 hN3 => ?_) (fun acc q2 hl3 hR3 hq2 => ?_)
      · simp -implicitDefEqProofs [wipeD, -List.map_map]
        refine ⟨q', g, b', rfl, rfl, hq', by omega, by omega, fun x q3 x0 x1 hq3 => ?_⟩
        simp -implicitDefEqProofs [wipeD, -List.map_map]
        exact hN3 _ _ ⟨_, rfl, by omega, by omega⟩ hq3
      · obtain ⟨ns, rfl, h1, h2⟩ := ints_R hR3
        have hrow : rowB c (.tuple (ns.map .int)) = true := by
          simp only [rowB, Bool.and_eq_true, decide_eq_true_eq]
          refine ⟨by rw [List.length_map]; omega, List.all_eq_true.mpr fun d hd => ?_⟩
          obtain ⟨x, hx, rfl⟩ := List.mem_map.mp hd
          have := h2 x hx
          simp [Dk.isInt, this.1, this.2]
        have e0 : eqOk (.list rows) (.list []) = true := by unfold eqOk; rw [show nilE (.list rows) (.list []) = true from rfl, Bool.or_true]
        have hjn : j + 1 ≤ n.toNat := by omega
        have put : ∀ (d : D) (q : Pen) (x9 : Sl), rowB c d = true → Bud q (b + 52 * (sch.length - (i + 1)) + 1 + 5 * (n.toNat - (j + 1))) → N2 ⟨[.pen, .val (.tuple (sch.map .int)), .val (.int 10), .val (.int c), .val (.int g), .own (rss.map rowsD), .own (rows ++ [d]), .val (.int j), .val (.tuple (ns.map .int)), x9], some q⟩ := fun d q x9 hd hq => hN2 _ ⟨q, rows ++ [d], .val (.int j), .val (.tuple (ns.map .int)), x9, rfl, by simp [hl2], hjn, fun y hy => by
          rcases List.mem_append.mp hy with hy | hy
          · exact hR2 y hy
          · rw [List.mem_singleton.mp hy]; exact hd, hq⟩
        simp -implicitDefEqProofs [unwipe, keepV, wipeD, -List.map_map, e0, eqv_lnil]
        split
        · exact ⟨by omega, put _ _ _ hrow (bud_le hq2 (by omega))⟩
        · rename_i hne
          refine ⟨q2, 4, b + 52 * (sch.length - (i + 1)) + 1 + 5 * (n.toNat - (j + 1)) + 1, rfl, rfl, hq2, by decide, by decide, fun z q3 z0 z1 hq3 => ?_⟩
          simp -implicitDefEqProofs
          split
          · refine ⟨q3, _, rows, b + 52 * (sch.length - (i + 1)) + 1 + 5 * (n.toNat - (j + 1)), rfl, rfl, rfl, hq3, by simpa using hne, by omega, fun d hd q4 hq4 => ?_⟩
            exact ⟨by omega, put _ _ _ (hR2 d hd) hq4⟩
          · exact ⟨by omega, put _ _ _ hrow (bud_le hq3 (by omega))⟩
    · rintro ρ ⟨q, rows, x7, x8, x9, rfl, hl2, hle2, hR2, hq⟩
      have hn : (rangeD 0 n.toNat).length = n.toNat := by simp [rangeD_len]
      rw [hn] at hl2 hle2 hq
      obtain ⟨ok, _⟩ := rows_sort c0 (List.all_eq_true.mpr hR2)
      obtain ⟨rs, ers, hrs⟩ := rows_R fun d hd => hR2 d (sort_mem hd)
      have hsl : (sortD rows).length = rows.length := (List.mergeSort_perm rows leD0).length_eq
      simp -implicitDefEqProofs [wipeD, -List.map_map]
      refine ⟨ok, by omega, ?_⟩
      refine hN _ ⟨q, rss ++ [rs], .val (.int c), .own rows, x7, x8, x9, ?_, by simp [hl], hil, fun r hr => ?_, bud_le hq (by omega)⟩
      · rw [ers, List.map_append]
        rfl
      · rcases List.mem_append.mp hr with hr | hr
        · exact hR r hr
        · rw [List.mem_singleton.mp hr]
          have hl9 : rs.length = rows.length := by rw [← hsl, ers, List.length_map]
          exact ⟨by omega, fun x hx => ⟨by have := (hrs x hx).1; omega, (hrs x hx).2⟩⟩
  · rintro ρ ⟨q, rss, x3, x6, x7, x8, x9, rfl, hl, hle, hR, hq⟩
    rw [List.length_map] at hl hle hq
    simp -implicitDefEqProofs [wipeD, -List.map_map]
    exact h rss q hl hR (bud_le hq (by omega))
end K82
set_option Elab.async false
set_option linter.all false
set_option maxRecDepth 100000
set_option maxHeartbeats 2000000
namespace K82
open PySem PySem.Spec PyProof.Rows L2 Dk
theorem er_map {α β : Type} (f : α → β) : ∀ (l : List α) (i : Nat), (l.map f).eraseIdx i = (l.eraseIdx i).map f
  | [], i => by simp
  | x :: l, 0 => by simp
  | x :: l, i + 1 => by
    rw [List.map_cons, List.eraseIdx_cons_succ, List.eraseIdx_cons_succ, List.map_cons, er_map f l i]
def pairD (p : Int × Int) : D := .tuple [.int p.1, .int p.2]
def CpOk (p : Int × Int) : Prop := 0 ≤ p.1 ∧ p.1 ≤ 9 ∧ 0 ≤ p.2 ∧ p.2 ≤ 9
def copD (prs : List (Int × Int)) : D := .tuple (prs.map pairD)
def spDrawCp : DSp := fun as pn P => ∃ (p : Pen) (sch : List Int) (b : Nat), as = [.pen, .val (tupI sch)] ∧ SchOk sch ∧ pn = some p ∧ Bud p (b + 24) ∧ ∀ prs p', prs.length ≤ 12 → (∀ r ∈ prs, CpOk r) → Bud p' b → P (copD prs) (some p')
theorem p_draw_copies (as : List Dk.Arg) (pn : Option Pen) (Q : D → Option Pen → Prop) (h : spDrawCp as pn Q) : t_law_draw_copies spTake { nx := fun ρ => Q .none ρ.pn, rt := Q } ⟨startD 7 as, pn⟩ := by
  obtain ⟨p, sch, b, rfl, S, rfl, hb, h⟩ := h
  unfold t_law_draw_copies
  have hz : sizeLine = 16777216 := sizeLine_eq
  have s1 := S.n1
  have e0 : ∀ rows : List D, eqOk (.list rows) (.list []) = true := fun rows => by unfold eqOk; rw [show nilE (.list rows) (.list []) = true from rfl, Bool.or_true]
  simp -implicitDefEqProofs [wipeD, oFix, tupI, -List.map_map]
  refine ⟨rfl, fun _ => ?_⟩
  refine forW_inv (fun i ρ => ∃ (q : Pen) (prs : List (Int × Int)) (x4 x5 : Sl), ρ = ⟨[.pen, .val (.tuple (sch.map .int)), .own (prs.map pairD), .un, x4, x5, .un], some q⟩ ∧ prs.length ≤ 3 * i ∧ i ≤ sch.length ∧ (∀ r ∈ prs, CpOk r) ∧ Bud q (b + 12 + 3 * (sch.length - i))) ?_ ?_ ⟨p, [], .un, .un, rfl, by simp, Nat.zero_le _, (fun r hr => by cases hr), bud_le hb (by omega)⟩
  · rintro i d ρ hi ⟨q, prs, x4, x5, rfl, hl, hle, hR, hq⟩ N hN
    rw [enumL_get, List.getElem?_map] at hi
    obtain ⟨d2, h1, rfl⟩ := Option.map_eq_some_iff.mp hi
    obtain ⟨c, hc, rfl⟩ := Option.map_eq_some_iff.mp h1
    have hil := (List.getElem?_eq_some_iff.mp hc).1
    obtain ⟨c0, c1⟩ := S.c c (List.mem_of_getElem? hc)
    simp -implicitDefEqProofs [wipeD, -List.map_map]
    refine ⟨by omega, fun _ => ?_⟩
    refine lcW_inv (fun j acc ρ => ∃ (q : Pen) (ps : List (Int × Int)), ρ = ⟨[.pen, .val (.tuple (sch.map .int)), .own (prs.map pairD), .un, .val (.int i), .val (.int c), .un], some q⟩ ∧ acc = ps.map pairD ∧ ps.length ≤ j ∧ j ≤ c.toNat ∧ (∀ r ∈ ps, CpOk r) ∧ Bud q (b + 12 + 3 * (sch.length - (i + 1)) + (c.toNat - j))) ?_ ?_ ?_ ⟨q, [], rfl, rfl, Nat.le_refl _, Nat.zero_le _, (fun r hr => by cases hr), bud_le hq (by omega)⟩
    · rintro j acc ρ ⟨q, ps, rfl, _⟩
      rfl
    · rintro j d acc ρ hj ⟨q, ps, rfl, rfl, hl2, hle2, hR2, hq⟩ N2 hN2
      obtain ⟨hjl, rfl⟩ := rangeD_get hj
      simp -implicitDefEqProofs [wipeD, -List.map_map]
      refine ⟨q, 3, b + 12 + 3 * (sch.length - (i + 1)) + (c.toNat - (j + 1)), rfl, rfl, bud_le hq (by omega), by decide, by decide, fun z q1 z0 z1 hq1 => ?_⟩
      simp -implicitDefEqProofs [wipeD, -List.map_map]
      split
      · refine hN2 _ _ ⟨q1, ps ++ [((i : Int), (j : Int))], rfl, by rw [List.map_append]; rfl, by simp; omega, by omega, fun r hr => ?_, hq1⟩
        rcases List.mem_append.mp hr with hr | hr
        · exact hR2 r hr
        · rw [List.mem_singleton.mp hr]; exact ⟨by omega, by omega, by omega, by omega⟩
      · exact hN2 _ _ ⟨q1, ps, rfl, rfl, by omega, by omega, hR2, hq1⟩
    · rintro acc ρ ⟨q, ps, rfl, rfl, hl2, hle2, hR2, hq⟩
      rw [rangeD_len] at hl2 hle2 hq
      simp -implicitDefEqProofs [unwipe, keepV, wipeD, -List.map_map]
      refine ⟨by omega, hN _ ⟨q, prs ++ ps, .val (.int i), .val (.int c), by rw [List.map_append], by simp; omega, hil, fun r hr => ?_, bud_le hq (by omega)⟩⟩
      rcases List.mem_append.mp hr with hr | hr
      · exact hR r hr
      · exact hR2 r hr
  · rintro ρ ⟨q, prs, x4, x5, rfl, hl, hle, hR, hq⟩
    have hel : (enumL 0 (sch.map PyData.int)).length = sch.length := by simp [enumL]
    rw [hel] at hl hle hq
    simp -implicitDefEqProofs [wipeD, -List.map_map]
    refine while_invS (fun i ρ => ∃ (q : Pen) (ps fs : List (Int × Int)), ρ = ⟨[.pen, .val (.tuple (sch.map .int)), .own (ps.map pairD), .own (fs.map pairD), x4, x5, .un], some q⟩ ∧ ps.length = i ∧ ps.length + fs.length ≤ 12 ∧ (∀ r ∈ ps, CpOk r) ∧ (∀ r ∈ fs, CpOk r) ∧ Bud q (b + i)) ?_ (n := prs.length) ⟨q, prs, [], rfl, rfl, by simp; omega, hR, (fun r hr => by cases hr), bud_le hq (by omega)⟩
    rintro i ρ ⟨q, ps, fs, rfl, hl2, hle2, hR2, hR3, hq⟩ N hN
    simp -implicitDefEqProofs [wipeD, -List.map_map, e0, eqv_lnil]
    by_cases hps : ps = []
    · subst hps
      rw [if_pos rfl]
      have : fs.length ≤ 12 := by simpa using hle2
      exact h fs q this hR3 (bud_le hq (by omega))
    · have hpos := List.length_pos_iff.mpr hps
      rw [if_neg hps]
      refine ⟨rfl, ?_⟩
      simp -implicitDefEqProofs [wipeD, -List.map_map]
      refine ⟨q, ps.length, b + (i - 1), rfl, rfl, bud_le hq (by omega), by omega, by omega, fun k q1 k0 k1 hq1 => ?_⟩
      have hk : k.toNat < ps.length := by omega
      simp -implicitDefEqProofs [own?, -List.map_map]
      refine gets_ixN k0 (by omega) ?_
      rw [List.getElem?_eq_getElem hk]
      have e1 : (ps.map pairD).eraseIdx k.toNat = (ps.eraseIdx k.toNat).map pairD := by
        exact er_map _ _ _
      have hl5 : (ps.eraseIdx k.toNat).length = ps.length - 1 := List.length_eraseIdx_of_lt hk
      have hsub : ∀ r ∈ ps.eraseIdx k.toNat, r ∈ ps := fun r hr => List.mem_of_mem_eraseIdx hr
      show _ ∧ _
      rw [e1]
      refine ⟨by omega, hN _ ⟨i - 1, by omega, q1, ps.eraseIdx k.toNat, fs ++ [ps[k.toNat]], by rw [List.map_append]; rfl, by omega, by rw [List.length_append, hl5]; simp; omega, fun r hr => hR2 r (hsub r hr), fun r hr => ?_, hq1⟩⟩
      rcases List.mem_append.mp hr with hr | hr
      · exact hR3 r hr
      · rw [List.mem_singleton.mp hr]; exact hR2 _ (List.getElem_mem _)
end K82
set_option Elab.async false
set_option linter.all false
set_option maxRecDepth 100000
set_option maxHeartbeats 2000000
namespace K82
open PySem PySem.Spec PyProof.Rows L2 Dk
/-! ### the law -/
structure Bx (W h : Nat) (d : D) : Prop where
  b : bz d = true
  w : wgt d ≤ W
  d : d.depth ≤ h
theorem Bx.vz {W h : Nat} {d : D} (x : Bx W h d) : Vz W h d := ⟨bz_show x.b, x.w, x.d⟩
theorem bx_int {i : Int} (h : i.natAbs < 1000000000000) : Bx 13 0 (.int i) := ⟨by
  rw [bz, decide_eq_true_eq]
  exact Nat.lt_of_lt_of_le h (by decide +kernel), wgt_small h, Nat.le_refl _⟩
theorem bx_mk {t : Bool} {ds : List D} {n c h : Nat} (hd : ∀ d ∈ ds, Bx c h d) (hl : ds.length ≤ n) (hn : n ≤ 3000) : Bx (n * (c + 2) + 3) (h + 1) (mkK t ds) := by
  refine ⟨bz_k.mpr ⟨by omega, bzA_iff.mpr fun d m => (hd d m).b⟩, ?_, ?_⟩
  · rw [wgtK]
    have := wgts_map (g := fun d : D => d) (c := c) (xs := ds) fun d m => (hd d m).w
    rw [List.map_id'] at this
    have h2 := Nat.mul_le_mul_right (c + 2) hl
    omega
  · rw [depthK]
    have := depth_map (g := fun d : D => d) (c := h) (xs := ds) fun d m => (hd d m).d
    rw [List.map_id'] at this
    omega
theorem Bx.mono {W h W' h' : Nat} {d : D} (x : Bx W h d) (hw : W ≤ W') (hh : h ≤ h') : Bx W' h' d := ⟨x.b, Nat.le_trans x.w hw, Nat.le_trans x.d hh⟩
theorem sch_bx {sch : List Int} (S : SchOk sch) : Bx 100 1 (tupI sch) := (bx_mk (t := true) (n := 4) (c := 13) (h := 0) (ds := sch.map .int) (fun d hd => by
  obtain ⟨x, hx, rfl⟩ := List.mem_map.mp hd
  have := S.c x hx
  exact bx_int (by omega)) (by rw [List.length_map]; exact S.n1) (by decide)).mono (by decide) (by decide)
theorem rows_bx {rs : List (List Int)} (R : RowsOk rs) : Bx 600 2 (rowsD rs) := (bx_mk (t := true) (n := 10) (c := 50) (h := 1) (ds := rs.map fun r => .tuple (r.map .int)) (fun d hd => by
  obtain ⟨r, hr, rfl⟩ := List.mem_map.mp hd
  obtain ⟨h1, h2⟩ := R.2 r hr
  exact (bx_mk (t := true) (n := 3) (c := 13) (h := 0) (ds := r.map .int) (fun d hd => by
    obtain ⟨x, hx, rfl⟩ := List.mem_map.mp hd
    have := h2 x hx
    exact bx_int (by omega)) (by rw [List.length_map]; exact h1) (by decide)).mono (by decide) (by decide)) (by rw [List.length_map]; exact R.1) (by decide)).mono (by decide) (by decide)
theorem data_bx {rss : List (List (List Int))} (hl : rss.length ≤ 4) (R : ∀ rs ∈ rss, RowsOk rs) : Bx 3000 3 (dataD rss) := (bx_mk (t := true) (n := 4) (c := 600) (h := 2) (ds := rss.map rowsD) (fun d hd => by
  obtain ⟨r, hr, rfl⟩ := List.mem_map.mp hd
  exact rows_bx (R r hr)) (by rw [List.length_map]; exact hl) (by decide)).mono (by decide) (by decide)
theorem pair_bx {p : Int × Int} (h : CpOk p) : Bx 50 1 (pairD p) := (bx_mk (t := true) (n := 2) (c := 13) (h := 0) (ds := [.int p.1, .int p.2]) (fun d hd => by
  obtain ⟨h1, h2, h3, h4⟩ := h
  simp only [List.mem_cons, List.not_mem_nil, or_false] at hd
  rcases hd with rfl | rfl
  · exact bx_int (by omega)
  · exact bx_int (by omega)) (Nat.le_refl _) (by decide)).mono (by decide) (by decide)
theorem cop_bx {prs : List (Int × Int)} (hl : prs.length ≤ 12) (R : ∀ r ∈ prs, CpOk r) : Bx 1000 2 (copD prs) := (bx_mk (t := true) (n := 12) (c := 50) (h := 1) (ds := prs.map pairD) (fun d hd => by
  obtain ⟨r, hr, rfl⟩ := List.mem_map.mp hd
  exact pair_bx (R r hr)) (by rw [List.length_map]; exact hl) (by decide)).mono (by decide) (by decide)
section
variable {E : DE} {p : Pen} {t x5 x6 x7 x8 x9 x10 : Sl} {b : Nat} {sch : List Int} {vals : List D}
theorem w3 (S : SchOk sch) (hv : ∀ d ∈ vals, Vz 100000 20 d) (hl : vals.length ≤ 20) (hb : Bud p (b + 300)) (hN : ∀ x5 x8 p', Bud p' b → u1_4 spDrawSch spDrawCp spDrawDb (spBentL 6) (spSame 40) spSch spSch spTake spDb spDb spCopies spCopies E ⟨[.un, .pen, t, .val (tupI sch), .own vals, x5, x6, x7, x8, x9, x10, .un], some p'⟩) :
    u1_3 spDrawSch spDrawCp spDrawDb (spBentL 6) (spSame 40) spSch spSch spTake spDb spDb spCopies spCopies E ⟨[.un, .pen, t, .val (tupI sch), .own vals, x5, x6, x7, x8, x9, x10, .un], some p⟩ := by
  unfold u1_3
  have hz : sizeLine = 16777216 := sizeLine_eq
  have B := sch_bx S
  simp -implicitDefEqProofs [wipeD]
  intro _
  refine lcW_draw (fun d => Vz 100000 20 d ∧ tl d ≤ 60) 8 b 36 (by simp [rangeD_len]) rfl (bud_le hb (by omega)) (fun i d hi q b' hq hb' N hN => ?_) (fun acc q hla hR hq => ?_)
  · simp -implicitDefEqProofs [wipeD]
    refine ⟨q, tupI sch, b', rfl, B.b, by have := B.d; omega, by decide, by have := B.w; omega, rfl, hq, fun d p' h1 h2 h3 => ?_⟩
    simp -implicitDefEqProofs [wipeD]
    have ht : tl (tupI sch) ≤ 4 := by show (sch.map PyData.int).length ≤ 4; rw [List.length_map]; exact S.n1
    exact hN _ _ ⟨h1.mono (by have := B.w; omega) (by have := B.d; omega), by omega⟩ h3
  · simp -implicitDefEqProofs [unwipe, keepV, wipeD]
    refine ⟨by omega, rfl, fun _ => ?_⟩
    refine forW_inv (fun i ρ => ∃ x5 x8 : Sl, ρ = ⟨[.un, .pen, t, .val (tupI sch), .own vals, x5, x6, x7, x8, x9, x10, .un], some q⟩) ?_ ?_ ⟨_, _, rfl⟩
    · rintro i d ρ hi ⟨x5, x8, rfl⟩ N hN
      have hd := List.mem_of_getElem? hi
      have hvz : Vz 100000 20 d := by
        rcases List.mem_append.mp hd with hd | hd
        · exact hv d hd
        · exact (hR d hd).1
      have hr : reprOkZ d := hvz.repr (by decide) (by decide)
      simp -implicitDefEqProofs [hr]
      refine ⟨d, rfl, ?_⟩
      simp -implicitDefEqProofs
      refine ⟨d, rfl, ?_⟩
      simp -implicitDefEqProofs
      refine ⟨_, _, rfl, rfl, rfl, Nat.zero_le _, ?_⟩
      rw [sameD_self]
      have heq : ∀ x y : Str, eqOk (.str x) (.str y) = true := fun x y => rfl
      simp -implicitDefEqProofs [hr, heq, eqv_txt]
      exact hN _ ⟨_, _, rfl⟩
    · rintro ρ ⟨x5, x8, rfl⟩
      exact hN _ _ _ hq
theorem w7 {rss : List (List (List Int))} {x7 : Sl} (S : SchOk sch) (hrl : rss.length = sch.length) (hrs : ∀ rs ∈ rss, RowsOk rs) (hv : ∀ d ∈ vals, Vz 100000 20 d) (hl : vals.length ≤ 20) (hb : Bud p (b + 440)) (hN : ∀ x5 x8 p', Bud p' b → u1_8 spDrawSch spDrawCp spDrawDb (spBentL 6) (spSame 40) spSch spSch spTake spDb spDb spCopies spCopies E ⟨[.un, .pen, t, .val (tupI sch), .own vals, x5, .val (dataD rss), x7, x8, x9, x10, .un], some p'⟩) :
    u1_7 spDrawSch spDrawCp spDrawDb (spBentL 6) (spSame 40) spSch spSch spTake spDb spDb spCopies spCopies E ⟨[.un, .pen, t, .val (tupI sch), .own vals, x5, .val (dataD rss), x7, x8, x9, x10, .un], some p⟩ := by
  unfold u1_7
  have hz : sizeLine = 16777216 := sizeLine_eq
  have B := data_bx (by have := S.n1; omega) hrs
  have hs1 : ∀ c ∈ sch, 1 ≤ c := fun c hc => (S.c c hc).1
  simp -implicitDefEqProofs [wipeD]
  intro _
  refine lcW_draw (fun d => Vz 100000 20 d ∧ tl d ≤ 60) 12 b 36 (by simp [rangeD_len]) rfl (bud_le hb (by omega)) (fun i d hi q b' hq hb' N hN => ?_) (fun acc q hla hR hq => ?_)
  · simp -implicitDefEqProofs [wipeD]
    refine ⟨q, dataD rss, b', rfl, B.b, by have := B.d; omega, by decide, by have := B.w; omega, rfl, hq, fun d p' h1 h2 h3 => ?_⟩
    simp -implicitDefEqProofs [wipeD]
    have ht : tl (dataD rss) ≤ 4 := by show (rss.map rowsD).length ≤ 4; rw [List.length_map, hrl]; exact S.n1
    exact hN _ _ ⟨h1.mono (by have := B.w; omega) (by have := B.d; omega), by omega⟩ h3
  · simp -implicitDefEqProofs [unwipe, keepV, wipeD]
    refine ⟨by omega, rfl, fun _ => ?_⟩
    refine forW_inv (fun i ρ => ∃ x5 x8 : Sl, ρ = ⟨[.un, .pen, t, .val (tupI sch), .own vals, x5, .val (dataD rss), x7, x8, x9, x10, .un], some q⟩) ?_ ?_ ⟨_, _, rfl⟩
    · rintro i d ρ hi ⟨x5, x8, rfl⟩ N hN
      have hd := List.mem_of_getElem? hi
      have hvz : Vz 100000 20 d := by
        rcases List.mem_append.mp hd with hd | hd
        · exact hv d hd
        · exact (hR d hd).1
      have hr : reprOkZ d := hvz.repr (by decide) (by decide)
      simp -implicitDefEqProofs [hr]
      refine ⟨sch, d, rfl, hs1, ?_⟩
      simp -implicitDefEqProofs
      refine ⟨sch, d, rfl, hs1, ?_⟩
      simp -implicitDefEqProofs
      refine ⟨_, _, rfl, rfl, rfl, Nat.zero_le _, ?_⟩
      rw [sameD_self]
      have heq : ∀ x y : Str, eqOk (.str x) (.str y) = true := fun x y => rfl
      simp -implicitDefEqProofs [hr, heq, eqv_txt]
      exact hN _ ⟨_, _, rfl⟩
    · rintro ρ ⟨x5, x8, rfl⟩
      exact hN _ _ _ hq
theorem w9 {prs : List (Int × Int)} {x6 : Sl} (S : SchOk sch) (hpl : prs.length ≤ 12) (hps : ∀ r ∈ prs, CpOk r) (hv : ∀ d ∈ vals, Vz 100000 20 d ∧ tl d ≤ 60) (hl : vals.length ≤ 20) (hb : Bud p (b + 300)) (hN : ∀ x5 x8 p', Bud p' b → E.nx ⟨[.un, .pen, t, .val (tupI sch), .own vals, x5, x6, .val (copD prs), x8, x9, x10, .un], some p'⟩) :
    u1_9 spDrawSch spDrawCp spDrawDb (spBentL 6) (spSame 40) spSch spSch spTake spDb spDb spCopies spCopies E ⟨[.un, .pen, t, .val (tupI sch), .own vals, x5, x6, .val (copD prs), x8, x9, x10, .un], some p⟩ := by
  unfold u1_9
  have hz : sizeLine = 16777216 := sizeLine_eq
  have B := cop_bx hpl hps
  have n1 := S.n1
  have hsl : ∀ k : Rs → Prop, gets (lenD [tupI sch]) k = k (.val (.int sch.length)) := fun k => by unfold tupI; simp -implicitDefEqProofs
  simp -implicitDefEqProofs [wipeD, copD, ↓hsl, -List.map_map]
  refine ⟨by omega, fun _ => ?_⟩
  refine lcW_draw (fun d => Vz 100000 20 d ∧ tl d ≤ 60) 8 b 36 (by simp [rangeD_len]) rfl (bud_le hb (by omega)) (fun i d hi q b' hq hb' N hN => ?_) (fun acc q hla hR hq => ?_)
  · simp -implicitDefEqProofs [wipeD]
    refine ⟨q, copD prs, b', rfl, B.b, by have := B.d; omega, by decide, by have := B.w; omega, rfl, hq, fun d p' h1 h2 h3 => ?_⟩
    simp -implicitDefEqProofs [wipeD]
    have ht : tl (copD prs) ≤ 12 := by show (prs.map pairD).length ≤ 12; rw [List.length_map]; exact hpl
    exact hN _ _ ⟨h1.mono (by have := B.w; omega) (by have := B.d; omega), by omega⟩ h3
  · simp -implicitDefEqProofs [unwipe, keepV, wipeD]
    refine ⟨by omega, rfl, fun _ => ?_⟩
    refine forW_inv (fun i ρ => ∃ x5 x8 : Sl, ρ = ⟨[.un, .pen, t, .val (tupI sch), .own vals, x5, x6, .val (copD prs), x8, x9, x10, .un], some q⟩) ?_ ?_ ⟨_, _, rfl⟩
    · rintro i d ρ hi ⟨x5, x8, rfl⟩ N hN
      have hd := List.mem_of_getElem? hi
      have hvt : Vz 100000 20 d ∧ tl d ≤ 60 := by
        rcases List.mem_append.mp hd with hd | hd
        · exact hv d hd
        · rcases List.mem_cons.mp hd with rfl | hd
          · refine ⟨((bx_mk (t := true) (n := 12) (c := 50) (h := 1) (ds := (prs.map pairD).reverse) (fun d hd => ?_) (by rw [List.length_reverse, List.length_map]; exact hpl) (by decide)).mono (by decide) (by decide)).vz, ?_⟩
            · obtain ⟨r, hr, rfl⟩ := List.mem_map.mp (List.mem_reverse.mp hd)
              exact pair_bx (hps r hr)
            · show (prs.map pairD).reverse.length ≤ 60
              rw [List.length_reverse, List.length_map]
              omega
          · rcases List.mem_cons.mp hd with rfl | hd
            · refine ⟨((bx_mk (t := true) (n := 1) (c := 50) (h := 1) (ds := [.tuple [.int (sch.length : Int), .int 0]]) (fun d hd => ?_) (Nat.le_refl _) (by decide)).mono (by decide) (by decide)).vz, ?_⟩
              · rw [List.mem_singleton.mp hd]
                exact pair_bx (p := ((sch.length : Int), 0)) ⟨by simp, by simp; omega, by simp, by simp⟩
              · show 1 ≤ 60
                decide
            · exact hR d hd
      have hvz := hvt.1
      have hlt : ∀ ds, d = .tuple ds → ds.length < 64 := fun ds e => by
        have := hvt.2
        rw [e] at this
        have : ds.length ≤ 60 := this
        omega
      have hr : reprOkZ d := hvz.repr (by decide) (by decide)
      simp -implicitDefEqProofs [hr]
      refine ⟨sch, d, rfl, hlt, ?_⟩
      simp -implicitDefEqProofs
      refine ⟨sch, d, rfl, hlt, ?_⟩
      simp -implicitDefEqProofs
      refine ⟨_, _, rfl, rfl, rfl, Nat.zero_le _, ?_⟩
      rw [sameD_self]
      have heq : ∀ x y : Str, eqOk (.str x) (.str y) = true := fun x y => rfl
      simp -implicitDefEqProofs [hr, heq, eqv_txt]
      exact hN _ ⟨_, _, rfl⟩
    · rintro ρ ⟨x5, x8, rfl⟩
      exact hN _ _ _ hq
end
end K82
set_option Elab.async false
set_option linter.all false
set_option maxRecDepth 100000
set_option maxHeartbeats 2000000
namespace K82
open PySem PySem.Spec PyProof.Rows L2 Dk
section
variable {E : DE} {p : Pen} {t x4 x5 x6 x7 x8 x9 x10 : Sl} {b : Nat} {sch : List Int}
theorem bx_list {t : Bool} {ds : List D} {c h n : Nat} (hd : ∀ d ∈ ds, Bx c h d) (hl : ds.length ≤ n) (hn : n ≤ 60) (hc : c ≤ 1000) (hh : h ≤ 10) : Vz 100000 20 (mkK t ds) ∧ tl (mkK t ds) ≤ 60 := by
  have B := bx_mk (t := t) hd hl (by omega)
  refine ⟨(B.mono (W' := 100000) (h' := 20) ?_ (by omega)).vz, by rw [tl_k]; omega⟩
  have h1 := Nat.mul_le_mul hn (show c + 2 ≤ 1002 by omega)
  omega
theorem w8 {prs : List (Int × Int)} (S : SchOk sch) (hpl : prs.length ≤ 12) (hps : ∀ r ∈ prs, CpOk r) (hb : Bud p (b + 300)) (hN : ∀ x4 x5 x8 p', Bud p' b → E.nx ⟨[.un, .pen, t, .val (tupI sch), x4, x5, x6, .val (copD prs), x8, x9, x10, .un], some p'⟩) :
    u1_8 spDrawSch spDrawCp spDrawDb (spBentL 6) (spSame 40) spSch spSch spTake spDb spDb spCopies spCopies E ⟨[.un, .pen, t, .val (tupI sch), x4, x5, x6, .val (copD prs), x8, x9, x10, .un], some p⟩ := by
  unfold u1_8
  have hz : sizeLine = 16777216 := sizeLine_eq
  have n0 := S.n0
  have n1 := S.n1
  have hs0 : ∀ K : D → Prop, gets (atI (sch.map PyData.int) 0) K = K (.int (gI sch 0)) := fun K => sch_at (k := 0) (by omega) (by omega) K
  have hpd : ∀ d ∈ prs.map pairD, Bx 50 1 d := fun d hd => by
    obtain ⟨r, hr, rfl⟩ := List.mem_map.mp hd
    exact pair_bx (hps r hr)
  have hc : Dk.cutD (prs.map pairD) none (some 1) = (prs.map pairD).take 1 := cutTo (xs := prs.map pairD) (k := 1) (by decide)
  have s0 : 1 ≤ gI sch 0 ∧ gI sch 0 ≤ 3 := S.c _ (by
    have e : gI sch 0 = sch[0] := gI_of (List.getElem?_eq_getElem (by omega))
    rw [e]
    exact List.getElem_mem _)
  simp -implicitDefEqProofs [copD, tupI, ↓hs0, hc, -List.map_map]
  refine ⟨by omega, w9 S hpl hps (fun d hd => ?_) (by simp) hb fun x5 x8 p' hp' => hN _ _ _ _ hp'⟩
  simp only [List.mem_cons, List.not_mem_nil, or_false] at hd
  have one : ∀ x : Int, 0 ≤ x → x ≤ 9 → ∀ d ∈ [PyData.tuple [.int 0, .int x]], Bx 50 1 d := fun x x0 x9 d hd => by
    rw [List.mem_singleton.mp hd]
    exact pair_bx (p := (0, x)) ⟨by simp, by simp, x0, x9⟩
  rcases hd with rfl | rfl | rfl | rfl | rfl | rfl | rfl
  · exact bx_list (t := true) hpd (n := 12) (by simpa using hpl) (by decide) (by decide) (by decide)
  · refine bx_list (t := true) (c := 50) (h := 1) (fun d hd => ?_) (n := 13) (by simp; omega) (by decide) (by decide) (by decide)
    rcases List.mem_append.mp hd with hd | hd
    · exact hpd d hd
    · exact hpd d (List.mem_of_mem_take hd)
  · exact bx_list (t := false) hpd (n := 12) (by simpa using hpl) (by decide) (by decide) (by decide)
  · exact ⟨Vz.of (by decide +kernel), Nat.zero_le _⟩
  · exact ⟨Vz.of (by decide +kernel), Nat.zero_le _⟩
  · exact bx_list (t := true) (one 0 (by decide) (by decide)) (n := 1) (Nat.le_refl _) (by decide) (by decide) (by decide)
  · exact bx_list (t := true) (one _ (by omega) (by omega)) (n := 1) (Nat.le_refl _) (by decide) (by decide) (by decide)
theorem w4 {rss : List (List (List Int))} {prs : List (Int × Int)} (S : SchOk sch) (hrl : rss.length = sch.length) (hrs : ∀ rs ∈ rss, RowsOk rs) (hpl : prs.length ≤ 12) (hps : ∀ r ∈ prs, CpOk r) (hb : Bud p (b + 741)) (hN : ∀ x4 x5 x8 x9 x10 p', Bud p' b → E.nx ⟨[.un, .pen, t, .val (tupI sch), x4, x5, .val (dataD rss), .val (copD prs), x8, x9, x10, .un], some p'⟩) :
    u1_4 spDrawSch spDrawCp spDrawDb (spBentL 6) (spSame 40) spSch spSch spTake spDb spDb spCopies spCopies E ⟨[.un, .pen, t, .val (tupI sch), x4, x5, .val (dataD rss), .val (copD prs), x8, x9, x10, .un], some p⟩ := by
  unfold u1_4
  have hz : sizeLine = 16777216 := sizeLine_eq
  have n0 := S.n0
  have n1 := S.n1
  have hs0 : ∀ K : D → Prop, gets (atI (sch.map PyData.int) 0) K = K (.int (gI sch 0)) := fun K => sch_at (k := 0) (by omega) (by omega) K
  have s0 : 1 ≤ gI sch 0 ∧ gI sch 0 ≤ 3 := S.c _ (by
    have e : gI sch 0 = sch[0] := gI_of (List.getElem?_eq_getElem (by omega))
    rw [e]
    exact List.getElem_mem _)
  have hsl : ∀ k : Rs → Prop, gets (lenD [tupI sch]) k = k (.val (.int sch.length)) := fun k => by unfold tupI; simp -implicitDefEqProofs
  have htu : ∀ k : D → Prop, gets (atI (sch.map PyData.int) 0) k = k (.int (gI sch 0)) := hs0
  simp -implicitDefEqProofs [tupI, ↓hs0, -List.map_map]
  refine ⟨by omega, p, sch.length, b + 740, rfl, rfl, hb, by omega, by omega, fun k p1 k0 k1 hp1 => ?_⟩
  simp -implicitDefEqProofs
  have hrow : Bx 60 1 (.tuple (List.replicate (gI sch 0).toNat (PyData.int 0))) := (bx_mk (t := true) (n := 3) (c := 13) (h := 0) (fun d hd => by
    rw [(List.mem_replicate.mp hd).2]
    exact bx_int (by decide)) (by rw [List.length_replicate]; omega) (by decide)).mono (by decide) (by decide)
  generalize PyData.tuple (List.replicate (gI sch 0).toNat (PyData.int 0)) = row at hrow ⊢
  unfold u1_5
  have hrd : ∀ d ∈ rss.map rowsD, Bx 600 2 d := fun d hd => by
    obtain ⟨r, hr, rfl⟩ := List.mem_map.mp hd
    exact rows_bx (hrs r hr)
  have hc1 : Dk.cutD (rss.map rowsD) (some 1) none = (rss.map rowsD).drop 1 := cutFrom (xs := rss.map rowsD) (show (0 : Int) ≤ 1 by decide)
  simp -implicitDefEqProofs [dataD, hc1, -List.map_map, -List.map_drop]
  refine ⟨by omega, by omega, ?_⟩
  have hrd' : ∀ d ∈ rss.map rowsD, Bx 1000 3 d := fun d hd => (hrd d hd).mono (by decide) (by decide)
  have htl : ∀ d ∈ (rss.map rowsD).tail, Bx 1000 3 d := fun d hd => hrd' d (List.mem_of_mem_tail hd)
  have hmany : ∀ n, n ≤ 11 → Bx 1000 3 (.tuple (List.replicate n row)) := fun n hn => (bx_mk (t := true) (n := 11) (c := 60) (h := 1) (ds := List.replicate n row) (fun d hd => by rw [(List.mem_replicate.mp hd).2]; exact hrow) (by rw [List.length_replicate]; exact hn) (by decide)).mono (by decide) (by decide)
  have hnil : Bx 1000 3 (.tuple []) := (bx_mk (t := true) (ds := []) (n := 0) (c := 0) (h := 0) (fun d hd => by cases hd) (Nat.le_refl _) (by decide)).mono (by decide) (by decide)
  have hV1 : ∀ d ∈ [PyData.tuple (List.map rowsD rss), PyData.tuple (List.map rowsD rss).tail,
                  PyData.tuple (List.map rowsD rss ++ [PyData.tuple []]), PyData.list (List.map rowsD rss), PyData.none,
                  PyData.tuple (List.map rowsD rss).reverse,
                  PyData.tuple
                    (PyData.tuple [row, row, row, row, row, row, row, row, row, row] :: (List.map rowsD rss).tail)], Vz 100000 20 d := fun d hd => by
    simp only [List.mem_cons, List.not_mem_nil, or_false] at hd
    rcases hd with rfl | rfl | rfl | rfl | rfl | rfl | rfl
    · exact (bx_list (t := true) hrd' (n := 4) (by rw [List.length_map]; omega) (by decide) (by decide) (by decide)).1
    · exact (bx_list (t := true) htl (n := 4) (by rw [List.length_tail, List.length_map]; omega) (by decide) (by decide) (by decide)).1
    · refine (bx_list (t := true) (c := 1000) (h := 3) (fun d hd => ?_) (n := 5) (by rw [List.length_append, List.length_map]; simp; omega) (by decide) (by decide) (by decide)).1
      rcases List.mem_append.mp hd with hd | hd
      · exact hrd' d hd
      · rw [List.mem_singleton.mp hd]; exact hnil
    · exact (bx_list (t := false) hrd' (n := 4) (by rw [List.length_map]; omega) (by decide) (by decide) (by decide)).1
    · exact Vz.of (by decide +kernel)
    · exact (bx_list (t := true) (c := 1000) (h := 3) (fun d hd => hrd' d (List.mem_reverse.mp hd)) (n := 4) (by rw [List.length_reverse, List.length_map]; omega) (by decide) (by decide) (by decide)).1
    · refine (bx_list (t := true) (c := 1000) (h := 3) (fun d hd => ?_) (n := 5) (by rw [List.length_cons, List.length_tail, List.length_map]; omega) (by decide) (by decide) (by decide)).1
      rcases List.mem_cons.mp hd with rfl | hd
      · exact hmany 10 (by decide)
      · exact htl d hd
  have hl1 : [PyData.tuple (List.map rowsD rss), PyData.tuple (List.map rowsD rss).tail,
                  PyData.tuple (List.map rowsD rss ++ [PyData.tuple []]), PyData.list (List.map rowsD rss), PyData.none,
                  PyData.tuple (List.map rowsD rss).reverse,
                  PyData.tuple
                    (PyData.tuple [row, row, row, row, row, row, row, row, row, row] :: (List.map rowsD rss).tail)].length = 7 := rfl
  generalize [PyData.tuple (List.map rowsD rss), PyData.tuple (List.map rowsD rss).tail,
                  PyData.tuple (List.map rowsD rss ++ [PyData.tuple []]), PyData.list (List.map rowsD rss), PyData.none,
                  PyData.tuple (List.map rowsD rss).reverse,
                  PyData.tuple
                    (PyData.tuple [row, row, row, row, row, row, row, row, row, row] :: (List.map rowsD rss).tail)] = v1 at hV1 hl1 ⊢
  unfold u1_6
  have hk : k.toNat < rss.length := by omega
  have hrk : ∀ K : D → Prop, gets (atI (rss.map rowsD) k) K = K (rowsD rss[k.toNat]) := fun K => atRi k0 (by rw [List.getElem?_map, List.getElem?_eq_getElem hk]; rfl) K
  have hck : Dk.cutD (rss.map rowsD) none (some k) = (rss.map rowsD).take k.toNat := cutTo k0
  have hck1 : Dk.cutD (rss.map rowsD) (some (k + 1)) none = (rss.map rowsD).drop (k + 1).toNat := cutFrom (by omega)
  have hrr := hrs _ (List.getElem_mem hk)
  generalize rss[k.toNat] = rk at hrk hrr
  simp -implicitDefEqProofs [hc1, ↓hrk, hck, hck1, rowsD, -List.map_map, -List.map_drop, -List.map_take]
  have hrv : Bx 1000 3 (.tuple (rk.map fun r => PyData.tuple (r.map .int)).reverse) := by
    have B := rows_bx hrr
    have hb9 := (bz_k (t := true) (ds := rk.map fun r : List Int => PyData.tuple (r.map .int))).mp B.b
    have hw9 : wgt (rowsD rk) = wgts (rk.map fun r => PyData.tuple (r.map .int)) + 3 := wgt_tuple
    refine ⟨(bz_k (t := true)).mpr ⟨by rw [List.length_reverse]; exact hb9.1, bzA_iff.mpr fun d hd => bzA_iff.mp hb9.2 d (List.mem_reverse.mp hd)⟩, ?_, ?_⟩
    · rw [wgt_tuple, wgts_reverse]
      have := B.w
      omega
    · rw [depth_tuple]
      have h1 : PyData.depthAll (rk.map fun r => PyData.tuple (r.map .int)).reverse ≤ 1 := by
        have := depth_map (g := fun d : D => d) (c := 1) (xs := (rk.map fun r => PyData.tuple (r.map .int)).reverse) fun d hd => by
          obtain ⟨r, _, rfl⟩ := List.mem_map.mp (List.mem_reverse.mp hd)
          exact depth_tupI (ns := r)
        rwa [List.map_id'] at this
      omega
  refine ⟨by omega, by omega, by omega, by omega, by omega, ?_⟩
  refine w7 (b := b + 300) S hrl hrs (fun d hd => ?_) (by rw [List.length_append, hl1]; simp) (bud_le hp1 (by omega)) fun x5 x8 p' hp' => ?_
  · rcases List.mem_append.mp hd with hd | hd
    · exact hV1 d hd
    · simp only [List.mem_cons, List.not_mem_nil, or_false] at hd
      rcases hd with rfl | rfl | rfl
      · refine (bx_list (t := true) (c := 1000) (h := 3) (fun d hd => ?_) (n := 5) (by rw [List.length_cons, List.length_tail, List.length_map]; omega) (by decide) (by decide) (by decide)).1
        rcases List.mem_cons.mp hd with rfl | hd
        · exact hmany 11 (by decide)
        · exact htl d hd
      · refine (bx_list (t := true) (c := 1000) (h := 3) (fun d hd => ?_) (n := 9) (by simp; omega) (by decide) (by decide) (by decide)).1
        rcases List.mem_append.mp hd with hd | hd
        · exact hrd' d (List.mem_of_mem_take hd)
        · rcases List.mem_cons.mp hd with rfl | hd
          · exact hrv
          · exact hrd' d (List.mem_of_mem_drop hd)
      · exact (bx_list (t := true) (c := 1000) (h := 3) (fun d hd => by rw [(List.mem_replicate.mp hd).2]; exact hnil) (n := 4) (by rw [List.length_replicate]; exact n1) (by decide) (by decide) (by decide)).1
  · exact w8 (b := b) S hpl hps hp' fun x4 x5 x8 p' hp' => hN _ _ _ _ _ _ hp'
theorem w1 (S : SchOk sch) (hb : Bud p (b + 1400)) (hN : ∀ x4 x5 x6 x7 x8 x9 x10 p', Bud p' b → E.nx ⟨[.un, .pen, t, .val (tupI sch), x4, x5, x6, x7, x8, x9, x10, .un], some p'⟩) :
    u1_1 spDrawSch spDrawCp spDrawDb (spBentL 6) (spSame 40) spSch spSch spTake spDb spDb spCopies spCopies E ⟨[.un, .pen, t, .val (tupI sch), x4, x5, x6, x7, x8, x9, x10, .un], some p⟩ := by
  unfold u1_1
  have hz : sizeLine = 16777216 := sizeLine_eq
  have n0 := S.n0
  have n1 := S.n1
  simp -implicitDefEqProofs
  refine ⟨p, sch, b + 1190, rfl, S, rfl, hb, fun rss p1 hrl hrs hp1 => ?_⟩
  simp -implicitDefEqProofs
  refine ⟨p1, sch, b + 1166, rfl, S, rfl, hp1, fun prs p2 hpl hps hp2 => ?_⟩
  simp -implicitDefEqProofs
  unfold u1_2
  have hsd : ∀ d ∈ sch.map PyData.int, Bx 1000 3 d := fun d hd => by
    obtain ⟨x, hx, rfl⟩ := List.mem_map.mp hd
    have := S.c x hx
    exact (bx_int (by omega)).mono (by decide) (by decide)
  simp -implicitDefEqProofs [tupI, -List.map_map]
  refine ⟨⟨fun e => by rw [e] at n0; simp at n0, by omega⟩, by omega, ?_⟩
  refine w3 (b := b + 741) S (fun d hd => ?_) (by simp) (bud_le hp2 (by omega)) fun x5 x8 p' hp' => ?_
  · simp only [List.mem_cons, List.not_mem_nil, or_false] at hd
    have h3 : ∀ d ∈ [PyData.int 3], Bx 1000 3 d := fun d hd => by
      rw [List.mem_singleton.mp hd]
      exact (bx_int (by decide)).mono (by decide) (by decide)
    have app : ∀ ys : List D, (∀ d ∈ ys, Bx 1000 3 d) → ∀ d ∈ sch.map PyData.int ++ ys, Bx 1000 3 d := fun ys hy d hd => by
      rcases List.mem_append.mp hd with hd | hd
      · exact hsd d hd
      · exact hy d hd
    rcases hd with rfl | rfl | rfl | rfl | rfl | rfl | rfl | rfl | rfl | rfl
    · exact (bx_list (t := true) hsd (n := 4) (by rw [List.length_map]; omega) (by decide) (by decide) (by decide)).1
    · exact (bx_list (t := true) (app _ hsd) (n := 8) (by rw [List.length_append, List.length_map]; omega) (by decide) (by decide) (by decide)).1
    · exact (bx_list (t := false) hsd (n := 4) (by rw [List.length_map]; omega) (by decide) (by decide) (by decide)).1
    · exact Vz.of (by decide +kernel)
    · exact Vz.of (by decide +kernel)
    · exact Vz.of (by decide +kernel)
    · exact Vz.of (by decide +kernel)
    · exact Vz.of (by decide +kernel)
    · exact Vz.of (by decide +kernel)
    · exact (bx_list (t := true) (app _ h3) (n := 5) (by rw [List.length_append, List.length_map]; simp; omega) (by decide) (by decide) (by decide)).1
  · exact w4 (b := b) S hrl hrs hpl hps hp' fun x4 x5 x8 x9 x10 p' hp' => hN _ _ _ _ _ _ _ _ hp'
end
theorem p_law (cells : List Int) : t_law spDrawSch spDrawCp spDrawDb (spBentL 6) (spSame 40) spSch spSch spTake spDb spDb spCopies spCopies { nx := fun _ => False, rt := fun d _ => d = .bool true } ⟨law0 12, some ⟨cells, 0, 0⟩⟩ := by
  unfold t_law
  have hz : sizeLine = 16777216 := sizeLine_eq
  simp -implicitDefEqProofs [law0]
  intro _
  refine forW_inv (fun t ρ => ∃ (x2 x3 x4 x5 x6 x7 x8 x9 x10 : Sl) (q : Pen), ρ = ⟨[.un, .pen, x2, x3, x4, x5, x6, x7, x8, x9, x10, .un], some q⟩ ∧ t ≤ 4 ∧ Bud q (1500 * (4 - t))) ?_ ?_ ⟨_, _, _, _, _, _, _, _, _, _, rfl, by decide, ⟨Int.le_refl 0, show (0 : Int) + ((1500 * (4 - 0) : Nat) : Int) ≤ 536870912 by decide⟩⟩
  · rintro t d ρ ht ⟨x2, x3, x4, x5, x6, x7, x8, x9, x10, q, rfl, _, hq⟩ N hN
    obtain ⟨htlt, rfl⟩ := rangeD_get ht
    simp -implicitDefEqProofs
    refine ⟨q, 1500 * (4 - (t + 1)) + 1400, rfl, rfl, bud_le hq (by omega), fun sch q1 S hq1 => ?_⟩
    simp -implicitDefEqProofs
    exact w1 (b := 1500 * (4 - (t + 1))) S hq1 fun x4 x5 x6 x7 x8 x9 x10 p' hp' => hN _ ⟨_, _, _, _, _, _, _, _, _, p', rfl, by omega, hp'⟩
  · rintro ρ ⟨x2, x3, x4, x5, x6, x7, x8, x9, x10, q, rfl, _, hq⟩
    simp -implicitDefEqProofs
end K82
set_option Elab.async false
set_option linter.all false
set_option maxRecDepth 100000
set_option maxHeartbeats 0
namespace K82
open PySem PySem.Spec PyProof.Rows L2 Dk
theorem allF {P : Program} {w : World} {K : Fg} {mg : Str → Option Value} {base : Heap} {f_is_integer : Addr} {fd_is_integer : FuncData} {f_is_scheme : Addr} {fd_is_scheme : FuncData} {f_is_row : Addr} {fd_is_row : FuncData} {f_are_rows : Addr} {fd_are_rows : FuncData} {f_is_database : Addr} {fd_is_database : FuncData} {f_is_copy : Addr} {fd_is_copy : FuncData} {f_is_copies : Addr} {fd_is_copies : FuncData} {f_law_open : Addr} {fd_law_open : FuncData} {f_law_spread : Addr} {fd_law_spread : FuncData} {f_law_take : Addr} {fd_law_take : FuncData} {f_law_same : Addr} {fd_law_same : FuncData} {f_law_one_of : Addr} {fd_law_one_of : FuncData} {f_law_is_integer : Addr} {fd_law_is_integer : FuncData} {f_law_draw_scheme : Addr} {fd_law_draw_scheme : FuncData} {f_law_draw_database : Addr} {fd_law_draw_database : FuncData} {f_law_draw_copies : Addr} {fd_law_draw_copies : FuncData} {f_law_odd : Addr} {fd_law_odd : FuncData} {f_law_bent : Addr} {fd_law_bent : FuncData} {f_law_is_scheme : Addr} {fd_law_is_scheme : FuncData} {f_law_is_row : Addr} {fd_law_is_row : FuncData} {f_law_is_database : Addr} {fd_law_is_database : FuncData} {f_law_are_copies : Addr} {fd_law_are_copies : FuncData} {f_law : Addr} {fd_law : FuncData} 
    (B : Blt mg) (C_MOST_TABLES : ∃ t, mg "MOST_TABLES" = some (Value.int (4) t)) (C_MOST_COLUMNS : ∃ t, mg "MOST_COLUMNS" = some (Value.int (3) t)) (C_MOST_VALUE : ∃ t, mg "MOST_VALUE" = some (Value.int (99) t)) (C_MOST_ROWS : ∃ t, mg "MOST_ROWS" = some (Value.int (10) t)) (D_is_integer : Dfn K mg "is_integer" S_is_integer f_is_integer fd_is_integer) (D_is_scheme : Dfn K mg "is_scheme" S_is_scheme f_is_scheme fd_is_scheme) (D_is_row : Dfn K mg "is_row" S_is_row f_is_row fd_is_row) (D_are_rows : Dfn K mg "are_rows" S_are_rows f_are_rows fd_are_rows) (D_is_database : Dfn K mg "is_database" S_is_database f_is_database fd_is_database) (D_is_copy : Dfn K mg "is_copy" S_is_copy f_is_copy fd_is_copy) (D_is_copies : Dfn K mg "is_copies" S_is_copies f_is_copies fd_is_copies) (D_law_open : Dfn K mg "_law_open" S_law_open f_law_open fd_law_open) (D_law_spread : Dfn K mg "_law_spread" S_law_spread f_law_spread fd_law_spread) (D_law_take : Dfn K mg "_law_take" S_law_take f_law_take fd_law_take) (D_law_same : Dfn K mg "_law_same" S_law_same f_law_same fd_law_same) (D_law_one_of : Dfn K mg "_law_one_of" S_law_one_of f_law_one_of fd_law_one_of) (D_law_is_integer : Dfn K mg "_law_is_integer" S_law_is_integer f_law_is_integer fd_law_is_integer) (D_law_draw_scheme : Dfn K mg "_law_draw_scheme" S_law_draw_scheme f_law_draw_scheme fd_law_draw_scheme) (D_law_draw_database : Dfn K mg "_law_draw_database" S_law_draw_database f_law_draw_database fd_law_draw_database) (D_law_draw_copies : Dfn K mg "_law_draw_copies" S_law_draw_copies f_law_draw_copies fd_law_draw_copies) (D_law_odd : Dfn K mg "_law_odd" S_law_odd f_law_odd fd_law_odd) (D_law_bent : Dfn K mg "_law_bent" S_law_bent f_law_bent fd_law_bent) (D_law_is_scheme : Dfn K mg "_law_is_scheme" S_law_is_scheme f_law_is_scheme fd_law_is_scheme) (D_law_is_row : Dfn K mg "_law_is_row" S_law_is_row f_law_is_row fd_law_is_row) (D_law_is_database : Dfn K mg "_law_is_database" S_law_is_database f_law_is_database fd_law_is_database) (D_law_are_copies : Dfn K mg "_law_are_copies" S_law_are_copies f_law_are_copies fd_law_are_copies) (D_law : Dfn K mg "law" S_law f_law fd_law)  : FnG P w K mg base CX0 41 f_law fd_law P_law (spLaw K) := by
  have F_is_integer : FnD P w K mg base 1 f_is_integer fd_is_integer P_is_integer (spIsInt) := ok_is_integer (k := 0) B D_is_integer     fun as pn Q _ h => p_is_integer as pn Q h
  have F_is_scheme : FnD P w K mg base 2 f_is_scheme fd_is_scheme P_is_scheme (spSch) := ok_is_scheme (k := 1) B D_is_scheme  C_MOST_TABLES C_MOST_COLUMNS D_is_integer (FnG.mono (F_is_integer) (by omega)) fun as pn Q _ h => p_is_scheme as pn Q h
  have F_is_row : FnD P w K mg base 2 f_is_row fd_is_row P_is_row (spRow) := ok_is_row (k := 1) B D_is_row  C_MOST_VALUE D_is_integer (FnG.mono (F_is_integer) (by omega)) fun as pn Q _ h => p_is_row as pn Q h
  have F_are_rows : FnD P w K mg base 3 f_are_rows fd_are_rows P_are_rows (spRows) := ok_are_rows (k := 2) B D_are_rows  C_MOST_ROWS D_is_row (FnG.mono (F_is_row) (by omega)) fun as pn Q _ h => p_are_rows as pn Q h
  have F_is_database : FnD P w K mg base 4 f_is_database fd_is_database P_is_database (spDb) := ok_is_database (k := 3) B D_is_database   D_are_rows (FnG.mono (F_are_rows) (by omega)) fun as pn Q _ h => p_is_database as pn Q h
  have F_is_copy : FnD P w K mg base 2 f_is_copy fd_is_copy P_is_copy (spCopy) := ok_is_copy (k := 1) B D_is_copy   D_is_integer (FnG.mono (F_is_integer) (by omega)) fun as pn Q _ h => p_is_copy as pn Q h
  have F_is_copies : FnD P w K mg base 3 f_is_copies fd_is_copies P_is_copies (spCopies) := ok_is_copies (k := 2) B D_is_copies   D_is_copy (FnG.mono (F_is_copy) (by omega)) fun as pn Q _ h => p_is_copies as pn Q h
  have F_law_open : FnD P w K mg base 1 f_law_open fd_law_open P_law_open (spOpen) := ok_law_open (k := 0) B D_law_open     fun as pn Q _ h => p_open as pn Q h
  have F_law_spread : FnD P w K mg base 1 f_law_spread fd_law_spread P_law_spread (spSpread) := ok_law_spread (k := 0) B D_law_spread     fun as pn Q _ h => p_spread as pn Q h
  have F_law_take : FnD P w K mg base 2 f_law_take fd_law_take P_law_take (spTake) := ok_law_take (k := 1) B D_law_take   D_law_spread (FnG.mono (F_law_spread) (by omega)) fun as pn Q _ h => p_take as pn Q h
  have F_law_same : ∀ f : Nat, FnD P w K mg base (0 + f) f_law_same fd_law_same P_law_same (spSame f) := fun f => by
    induction f with
    | zero => exact FnD.none (by intro as pn P h; first | exact h | (simp at h) | (obtain ⟨_, _, _, _, h⟩ := h; simp at h))
    | succ f ih => exact ok_law_same (k := 0 + f) B D_law_same    ih fun as pn Q _ h => p_same f as pn Q h
  have F_law_one_of : FnD P w K mg base 3 f_law_one_of fd_law_one_of P_law_one_of (spOneOf) := ok_law_one_of (k := 2) B D_law_one_of   D_law_take (FnG.mono (F_law_take) (by omega)) fun as pn Q _ h => p_one_of as pn Q h
  have F_law_is_integer : FnD P w K mg base 1 f_law_is_integer fd_law_is_integer P_law_is_integer (spIsInt) := ok_law_is_integer (k := 0) B D_law_is_integer     fun as pn Q _ h => p_law_is_integer as pn Q h
  have F_law_draw_scheme : FnD P w K mg base 3 f_law_draw_scheme fd_law_draw_scheme P_law_draw_scheme (spDrawSch) := ok_law_draw_scheme (k := 2) B D_law_draw_scheme   D_law_take (FnG.mono (F_law_take) (by omega)) fun as pn Q _ h => p_draw_scheme as pn Q h
  have F_law_draw_database : FnD P w K mg base 4 f_law_draw_database fd_law_draw_database P_law_draw_database (spDrawDb) := ok_law_draw_database (k := 3) B D_law_draw_database   D_law_one_of D_law_take (FnG.mono (F_law_one_of) (by omega)) (FnG.mono (F_law_take) (by omega)) fun as pn Q _ h => p_draw_database as pn Q h
  have F_law_draw_copies : FnD P w K mg base 3 f_law_draw_copies fd_law_draw_copies P_law_draw_copies (spDrawCp) := ok_law_draw_copies (k := 2) B D_law_draw_copies   D_law_take (FnG.mono (F_law_take) (by omega)) fun as pn Q _ h => p_draw_copies as pn Q h
  have F_law_odd : FnD P w K mg base 4 f_law_odd fd_law_odd P_law_odd (spOddZ) := ok_law_odd (k := 3) B D_law_odd   D_law_one_of (FnG.mono (F_law_one_of) (by omega)) fun as pn Q _ h => p_odd as pn Q h
  have F_law_bent : ∀ f : Nat, FnD P w K mg base (4 + f) f_law_bent fd_law_bent P_law_bent (spBentL f) := fun f => by
    induction f with
    | zero => exact FnD.none (by intro as pn P h; first | exact h | (simp at h) | (obtain ⟨_, _, _, _, h⟩ := h; simp at h))
    | succ f ih => exact ok_law_bent (k := 4 + f) B D_law_bent   D_law_take D_law_one_of D_law_odd (FnG.mono (F_law_take) (by omega)) (FnG.mono (F_law_one_of) (by omega)) (FnG.mono (F_law_odd) (by omega)) ih fun as pn Q _ h => p_bent f as pn Q h
  have F_law_is_scheme : FnD P w K mg base 2 f_law_is_scheme fd_law_is_scheme P_law_is_scheme (spSch) := ok_law_is_scheme (k := 1) B D_law_is_scheme   D_law_is_integer (FnG.mono (F_law_is_integer) (by omega)) fun as pn Q _ h => p_law_is_scheme as pn Q h
  have F_law_is_row : FnD P w K mg base 2 f_law_is_row fd_law_is_row P_law_is_row (spRow) := ok_law_is_row (k := 1) B D_law_is_row   D_law_is_integer (FnG.mono (F_law_is_integer) (by omega)) fun as pn Q _ h => p_law_is_row as pn Q h
  have F_law_is_database : FnD P w K mg base 3 f_law_is_database fd_law_is_database P_law_is_database (spDb) := ok_law_is_database (k := 2) B D_law_is_database   D_law_is_row (FnG.mono (F_law_is_row) (by omega)) fun as pn Q _ h => p_law_is_database as pn Q h
  have F_law_are_copies : FnD P w K mg base 2 f_law_are_copies fd_law_are_copies P_law_are_copies (spCopies) := ok_law_are_copies (k := 1) B D_law_are_copies   D_law_is_integer (FnG.mono (F_law_is_integer) (by omega)) fun as pn Q _ h => p_law_are_copies as pn Q h
  exact ok_law (k := 40) B D_law   D_law_open D_law_draw_scheme D_law_draw_copies D_law_draw_database D_law_bent D_law_same D_is_scheme D_law_is_scheme D_law_take D_is_database D_law_is_database D_is_copies D_law_are_copies (FnG.mono (F_law_open) (by omega)) (FnG.mono (F_law_draw_scheme) (by omega)) (FnG.mono (F_law_draw_copies) (by omega)) (FnG.mono (F_law_draw_database) (by omega)) (FnG.mono (F_law_bent 6) (by omega)) (FnG.mono (F_law_same 40) (by omega)) (FnG.mono (F_is_scheme) (by omega)) (FnG.mono (F_law_is_scheme) (by omega)) (FnG.mono (F_law_take) (by omega)) (FnG.mono (F_is_database) (by omega)) (FnG.mono (F_law_is_database) (by omega)) (FnG.mono (F_is_copies) (by omega)) (FnG.mono (F_law_are_copies) (by omega)) (fun ns Q h => ⟨ns, rfl, rfl, h⟩) p_law
def dd_is_integer : He.DefD := ⟨("is_integer", none), "is_integer", "is_integer", defArgs S_is_integer, defBody S_is_integer, defScope S_is_integer, [], []⟩
def dd_is_scheme : He.DefD := ⟨("is_scheme", none), "is_scheme", "is_scheme", defArgs S_is_scheme, defBody S_is_scheme, defScope S_is_scheme, [], []⟩
def dd_is_row : He.DefD := ⟨("is_row", none), "is_row", "is_row", defArgs S_is_row, defBody S_is_row, defScope S_is_row, [], []⟩
def dd_are_rows : He.DefD := ⟨("are_rows", none), "are_rows", "are_rows", defArgs S_are_rows, defBody S_are_rows, defScope S_are_rows, [], []⟩
def dd_is_database : He.DefD := ⟨("is_database", none), "is_database", "is_database", defArgs S_is_database, defBody S_is_database, defScope S_is_database, [], []⟩
def dd_is_copy : He.DefD := ⟨("is_copy", none), "is_copy", "is_copy", defArgs S_is_copy, defBody S_is_copy, defScope S_is_copy, [], []⟩
def dd_is_copies : He.DefD := ⟨("is_copies", none), "is_copies", "is_copies", defArgs S_is_copies, defBody S_is_copies, defScope S_is_copies, [], []⟩
def dd_law_open : He.DefD := ⟨("_law_open", none), "_law_open", "_law_open", defArgs S_law_open, defBody S_law_open, defScope S_law_open, [], []⟩
def dd_law_spread : He.DefD := ⟨("_law_spread", none), "_law_spread", "_law_spread", defArgs S_law_spread, defBody S_law_spread, defScope S_law_spread, [], []⟩
def dd_law_take : He.DefD := ⟨("_law_take", none), "_law_take", "_law_take", defArgs S_law_take, defBody S_law_take, defScope S_law_take, [], []⟩
def dd_law_same : He.DefD := ⟨("_law_same", none), "_law_same", "_law_same", defArgs S_law_same, defBody S_law_same, defScope S_law_same, [], []⟩
def dd_law_one_of : He.DefD := ⟨("_law_one_of", none), "_law_one_of", "_law_one_of", defArgs S_law_one_of, defBody S_law_one_of, defScope S_law_one_of, [], []⟩
def dd_law_is_integer : He.DefD := ⟨("_law_is_integer", none), "_law_is_integer", "_law_is_integer", defArgs S_law_is_integer, defBody S_law_is_integer, defScope S_law_is_integer, [], []⟩
def dd_law_draw_scheme : He.DefD := ⟨("_law_draw_scheme", none), "_law_draw_scheme", "_law_draw_scheme", defArgs S_law_draw_scheme, defBody S_law_draw_scheme, defScope S_law_draw_scheme, [], []⟩
def dd_law_draw_database : He.DefD := ⟨("_law_draw_database", none), "_law_draw_database", "_law_draw_database", defArgs S_law_draw_database, defBody S_law_draw_database, defScope S_law_draw_database, [], []⟩
def dd_law_draw_copies : He.DefD := ⟨("_law_draw_copies", none), "_law_draw_copies", "_law_draw_copies", defArgs S_law_draw_copies, defBody S_law_draw_copies, defScope S_law_draw_copies, [], []⟩
def dd_law_odd : He.DefD := ⟨("_law_odd", none), "_law_odd", "_law_odd", defArgs S_law_odd, defBody S_law_odd, defScope S_law_odd, [], []⟩
def dd_law_bent : He.DefD := ⟨("_law_bent", none), "_law_bent", "_law_bent", defArgs S_law_bent, defBody S_law_bent, defScope S_law_bent, [], []⟩
def dd_law_is_scheme : He.DefD := ⟨("_law_is_scheme", none), "_law_is_scheme", "_law_is_scheme", defArgs S_law_is_scheme, defBody S_law_is_scheme, defScope S_law_is_scheme, [], []⟩
def dd_law_is_row : He.DefD := ⟨("_law_is_row", none), "_law_is_row", "_law_is_row", defArgs S_law_is_row, defBody S_law_is_row, defScope S_law_is_row, [], []⟩
def dd_law_is_database : He.DefD := ⟨("_law_is_database", none), "_law_is_database", "_law_is_database", defArgs S_law_is_database, defBody S_law_is_database, defScope S_law_is_database, [], []⟩
def dd_law_are_copies : He.DefD := ⟨("_law_are_copies", none), "_law_are_copies", "_law_are_copies", defArgs S_law_are_copies, defBody S_law_are_copies, defScope S_law_are_copies, [], []⟩
def dd_law : He.DefD := ⟨("law", none), "law", "law", defArgs S_law, defBody S_law, defScope S_law, [], []⟩
def fn : List He.DefD := [dd_is_integer, dd_is_scheme, dd_is_row, dd_are_rows, dd_is_database, dd_is_copy, dd_is_copies, dd_law_open, dd_law_spread, dd_law_take, dd_law_same, dd_law_one_of, dd_law_is_integer, dd_law_draw_scheme, dd_law_draw_database, dd_law_draw_copies, dd_law_odd, dd_law_bent, dd_law_is_scheme, dd_law_is_row, dd_law_is_database, dd_law_are_copies, dd_law]
def gl : List Str := (["is_integer", "is_scheme", "is_row", "are_rows", "is_database", "is_copy", "is_copies", "_law_open", "_law_spread", "_law_take", "_law_same", "_law_one_of", "_law_is_integer", "_law_draw_scheme", "_law_draw_database", "_law_draw_copies", "_law_odd", "_law_bent", "_law_is_scheme", "_law_is_row", "_law_is_database", "_law_are_copies", "law"] : List PySem.Str)
def fa : List He.Fa := gl.map He.Fa.glo ++ (bltNames.map He.Fa.free ++ [He.Fa.int "MOST_TABLES" (4), He.Fa.int "MOST_COLUMNS" (3), He.Fa.int "MOST_VALUE" (99), He.Fa.int "MOST_ROWS" (10)])
abbrev R : PySem.W.OpenRow := PySem.W.OpenLaw.row PySem.Challenge.rw_priceplans_k82_schemes_and_databases_rec
abbrev hk : PySem.W.Hook := He.hookD 4 fa fn
def ob (s : PySem.W.SharedT) : He.AlD := He.obsDG 4 fa fn (HandSHeadRun.getT s)
theorem ob_eq (s : PySem.W.SharedT) : ob s = hk.obs s.abs := He.obsDG_eq (HandSHeadRun.getT_eq s)
theorem run (w : World) : HandSHeadRun.RunEq R (PySem.W.view R.prog [29]) hk ob 4000 (["is_integer", "MOST_TABLES", "MOST_COLUMNS", "MOST_ROWS", "MOST_VALUE", "is_scheme", "is_row", "are_rows", "is_database", "is_copy", "is_copies", "_law_open", "_law_spread", "_law_take", "_law_same", "_law_one_of", "_law_is_integer", "_law_draw_scheme", "_law_draw_database", "_law_draw_copies", "_law_odd", "_law_bent", "_law_is_scheme", "_law_is_row", "_law_is_database", "_law_are_copies"] : List PySem.Str) w := by
  intro os
  kernel_rfl
theorem says_fact {K : PySem.W.Frag} (c : He.SaysD fa fn K) {f : He.Fa} (h : f ∈ fa) : f.ok K = true := by
  have c1 := (He.ba (show ((fa.all fun f => f.ok K) && fn.all fun d => d.ok K) = true from congrArg (fun z : He.AlD => z.1) c)).1
  exact List.all_eq_true.mp c1 f h
theorem says_glo {K : PySem.W.Frag} {h : Heap} {mg : Str → Option Value} (X : K.In h) (G : h.Ns mainGlobals mg) (c : He.SaysD fa fn K) (x : Str) (hx : x ∈ gl) : mg x = some (.ref (He.ga K x)) :=
  He.glo_ok X G (says_fact c (List.mem_append_left _ (List.mem_map.mpr ⟨x, hx, rfl⟩)))
theorem facts {P : Program} {w : World} {K : PySem.W.Frag} {h : Heap} {mg : Str → Option Value} {f : Addr} (X : K.In h) (G : h.Ns mainGlobals mg) (hfa : mg ("law" : Str) = some (.ref f)) (c : He.SaysD fa fn K) :
    ∃ fd : FuncData, (∀ (s : Shared) (v : Value), BindsTo s fd ⟨[v], []⟩ [("_law_script", v)]) ∧ ∀ base : Heap, K.In base → base.Ns mainGlobals mg → FnG P w K mg base CX0 41 f fd ["_law_script"] (spLaw K) := by
  have B : Blt mg := fun x hx => He.free_ok X G (says_fact c (List.mem_append_right _ (List.mem_append_left _ (List.mem_map.mpr ⟨x, hx, rfl⟩))))
  have C_MOST_TABLES : ∃ t, mg "MOST_TABLES" = some (Value.int (4) t) := He.int_ok X G (says_fact c (List.mem_append_right _ (List.mem_append_right _ (by simp))))
  have C_MOST_COLUMNS : ∃ t, mg "MOST_COLUMNS" = some (Value.int (3) t) := He.int_ok X G (says_fact c (List.mem_append_right _ (List.mem_append_right _ (by simp))))
  have C_MOST_VALUE : ∃ t, mg "MOST_VALUE" = some (Value.int (99) t) := He.int_ok X G (says_fact c (List.mem_append_right _ (List.mem_append_right _ (by simp))))
  have C_MOST_ROWS : ∃ t, mg "MOST_ROWS" = some (Value.int (10) t) := He.int_ok X G (says_fact c (List.mem_append_right _ (List.mem_append_right _ (by simp))))
  obtain ⟨fd_is_integer, H_is_integer⟩ := c.def_ 0 (d := dd_is_integer) rfl
  have D_is_integer : Dfn K mg "is_integer" S_is_integer (He.ga K "is_integer") fd_is_integer := ⟨H_is_integer, says_glo X G c "is_integer" (by unfold gl; simp)⟩
  obtain ⟨fd_is_scheme, H_is_scheme⟩ := c.def_ 1 (d := dd_is_scheme) rfl
  have D_is_scheme : Dfn K mg "is_scheme" S_is_scheme (He.ga K "is_scheme") fd_is_scheme := ⟨H_is_scheme, says_glo X G c "is_scheme" (by unfold gl; simp)⟩
  obtain ⟨fd_is_row, H_is_row⟩ := c.def_ 2 (d := dd_is_row) rfl
  have D_is_row : Dfn K mg "is_row" S_is_row (He.ga K "is_row") fd_is_row := ⟨H_is_row, says_glo X G c "is_row" (by unfold gl; simp)⟩
  obtain ⟨fd_are_rows, H_are_rows⟩ := c.def_ 3 (d := dd_are_rows) rfl
  have D_are_rows : Dfn K mg "are_rows" S_are_rows (He.ga K "are_rows") fd_are_rows := ⟨H_are_rows, says_glo X G c "are_rows" (by unfold gl; simp)⟩
  obtain ⟨fd_is_database, H_is_database⟩ := c.def_ 4 (d := dd_is_database) rfl
  have D_is_database : Dfn K mg "is_database" S_is_database (He.ga K "is_database") fd_is_database := ⟨H_is_database, says_glo X G c "is_database" (by unfold gl; simp)⟩
  obtain ⟨fd_is_copy, H_is_copy⟩ := c.def_ 5 (d := dd_is_copy) rfl
  have D_is_copy : Dfn K mg "is_copy" S_is_copy (He.ga K "is_copy") fd_is_copy := ⟨H_is_copy, says_glo X G c "is_copy" (by unfold gl; simp)⟩
  obtain ⟨fd_is_copies, H_is_copies⟩ := c.def_ 6 (d := dd_is_copies) rfl
  have D_is_copies : Dfn K mg "is_copies" S_is_copies (He.ga K "is_copies") fd_is_copies := ⟨H_is_copies, says_glo X G c "is_copies" (by unfold gl; simp)⟩
  obtain ⟨fd_law_open, H_law_open⟩ := c.def_ 7 (d := dd_law_open) rfl
  have D_law_open : Dfn K mg "_law_open" S_law_open (He.ga K "_law_open") fd_law_open := ⟨H_law_open, says_glo X G c "_law_open" (by unfold gl; simp)⟩
  obtain ⟨fd_law_spread, H_law_spread⟩ := c.def_ 8 (d := dd_law_spread) rfl
  have D_law_spread : Dfn K mg "_law_spread" S_law_spread (He.ga K "_law_spread") fd_law_spread := ⟨H_law_spread, says_glo X G c "_law_spread" (by unfold gl; simp)⟩
  obtain ⟨fd_law_take, H_law_take⟩ := c.def_ 9 (d := dd_law_take) rfl
  have D_law_take : Dfn K mg "_law_take" S_law_take (He.ga K "_law_take") fd_law_take := ⟨H_law_take, says_glo X G c "_law_take" (by unfold gl; simp)⟩
  obtain ⟨fd_law_same, H_law_same⟩ := c.def_ 10 (d := dd_law_same) rfl
  have D_law_same : Dfn K mg "_law_same" S_law_same (He.ga K "_law_same") fd_law_same := ⟨H_law_same, says_glo X G c "_law_same" (by unfold gl; simp)⟩
  obtain ⟨fd_law_one_of, H_law_one_of⟩ := c.def_ 11 (d := dd_law_one_of) rfl
  have D_law_one_of : Dfn K mg "_law_one_of" S_law_one_of (He.ga K "_law_one_of") fd_law_one_of := ⟨H_law_one_of, says_glo X G c "_law_one_of" (by unfold gl; simp)⟩
  obtain ⟨fd_law_is_integer, H_law_is_integer⟩ := c.def_ 12 (d := dd_law_is_integer) rfl
  have D_law_is_integer : Dfn K mg "_law_is_integer" S_law_is_integer (He.ga K "_law_is_integer") fd_law_is_integer := ⟨H_law_is_integer, says_glo X G c "_law_is_integer" (by unfold gl; simp)⟩
  obtain ⟨fd_law_draw_scheme, H_law_draw_scheme⟩ := c.def_ 13 (d := dd_law_draw_scheme) rfl
  have D_law_draw_scheme : Dfn K mg "_law_draw_scheme" S_law_draw_scheme (He.ga K "_law_draw_scheme") fd_law_draw_scheme := ⟨H_law_draw_scheme, says_glo X G c "_law_draw_scheme" (by unfold gl; simp)⟩
  obtain ⟨fd_law_draw_database, H_law_draw_database⟩ := c.def_ 14 (d := dd_law_draw_database) rfl
  have D_law_draw_database : Dfn K mg "_law_draw_database" S_law_draw_database (He.ga K "_law_draw_database") fd_law_draw_database := ⟨H_law_draw_database, says_glo X G c "_law_draw_database" (by unfold gl; simp)⟩
  obtain ⟨fd_law_draw_copies, H_law_draw_copies⟩ := c.def_ 15 (d := dd_law_draw_copies) rfl
  have D_law_draw_copies : Dfn K mg "_law_draw_copies" S_law_draw_copies (He.ga K "_law_draw_copies") fd_law_draw_copies := ⟨H_law_draw_copies, says_glo X G c "_law_draw_copies" (by unfold gl; simp)⟩
  obtain ⟨fd_law_odd, H_law_odd⟩ := c.def_ 16 (d := dd_law_odd) rfl
  have D_law_odd : Dfn K mg "_law_odd" S_law_odd (He.ga K "_law_odd") fd_law_odd := ⟨H_law_odd, says_glo X G c "_law_odd" (by unfold gl; simp)⟩
  obtain ⟨fd_law_bent, H_law_bent⟩ := c.def_ 17 (d := dd_law_bent) rfl
  have D_law_bent : Dfn K mg "_law_bent" S_law_bent (He.ga K "_law_bent") fd_law_bent := ⟨H_law_bent, says_glo X G c "_law_bent" (by unfold gl; simp)⟩
  obtain ⟨fd_law_is_scheme, H_law_is_scheme⟩ := c.def_ 18 (d := dd_law_is_scheme) rfl
  have D_law_is_scheme : Dfn K mg "_law_is_scheme" S_law_is_scheme (He.ga K "_law_is_scheme") fd_law_is_scheme := ⟨H_law_is_scheme, says_glo X G c "_law_is_scheme" (by unfold gl; simp)⟩
  obtain ⟨fd_law_is_row, H_law_is_row⟩ := c.def_ 19 (d := dd_law_is_row) rfl
  have D_law_is_row : Dfn K mg "_law_is_row" S_law_is_row (He.ga K "_law_is_row") fd_law_is_row := ⟨H_law_is_row, says_glo X G c "_law_is_row" (by unfold gl; simp)⟩
  obtain ⟨fd_law_is_database, H_law_is_database⟩ := c.def_ 20 (d := dd_law_is_database) rfl
  have D_law_is_database : Dfn K mg "_law_is_database" S_law_is_database (He.ga K "_law_is_database") fd_law_is_database := ⟨H_law_is_database, says_glo X G c "_law_is_database" (by unfold gl; simp)⟩
  obtain ⟨fd_law_are_copies, H_law_are_copies⟩ := c.def_ 21 (d := dd_law_are_copies) rfl
  have D_law_are_copies : Dfn K mg "_law_are_copies" S_law_are_copies (He.ga K "_law_are_copies") fd_law_are_copies := ⟨H_law_are_copies, says_glo X G c "_law_are_copies" (by unfold gl; simp)⟩
  obtain ⟨fd, F⟩ := c.def_ 22 (d := dd_law) rfl
  have e := hfa.symm.trans (says_glo X G c "law" (by unfold gl; simp))
  cases e
  have b := FunD.bindsA (ps := ["_law_script"]) F fun _ _ _ _ _ _ us hl => match us, hl with | [_], _ => rfl
  have D_law : Dfn K mg "law" S_law (He.ga K "law") fd := ⟨F, says_glo X G c "law" (by unfold gl; simp)⟩
  exact ⟨fd, fun s v => b s [v] rfl, fun base _ _ => allF B C_MOST_TABLES C_MOST_COLUMNS C_MOST_VALUE C_MOST_ROWS D_is_integer D_is_scheme D_is_row D_are_rows D_is_database D_is_copy D_is_copies D_law_open D_law_spread D_law_take D_law_same D_law_one_of D_law_is_integer D_law_draw_scheme D_law_draw_database D_law_draw_copies D_law_odd D_law_bent D_law_is_scheme D_law_is_row D_law_is_database D_law_are_copies D_law ⟩
end K82
open PySem PySem.W PySem.Calls PyProof.Rows
theorem PySem.Challenge.cw_priceplans_k82_schemes_and_databases_rec_holds : PySem.Challenge.rw_priceplans_k82_schemes_and_databases_rec.Holds := by
  w_on; o_law
  refine HandSHeadRun.head_any (r := OpenLaw.row PySem.Challenge.rw_priceplans_k82_schemes_and_databases_rec) (q := view (OpenLaw.row PySem.Challenge.rw_priceplans_k82_schemes_and_databases_rec).prog [29]) (H := K82.hk) (ob := K82.ob) (M := 4000) (loose := (["is_integer", "MOST_TABLES", "MOST_COLUMNS", "MOST_ROWS", "MOST_VALUE", "is_scheme", "is_row", "are_rows", "is_database", "is_copy", "is_copies", "_law_open", "_law_spread", "_law_take", "_law_same", "_law_one_of", "_law_is_integer", "_law_draw_scheme", "_law_draw_database", "_law_draw_copies", "_law_odd", "_law_bent", "_law_is_scheme", "_law_is_row", "_law_is_database", "_law_are_copies"] : List PySem.Str)) (d := HandSHeadRun.topDef (OpenLaw.row PySem.Challenge.rw_priceplans_k82_schemes_and_databases_rec).prog 29) (kwd := []) K82.ob_eq
    (by kernel_rfl) (fun s => by kernel_rfl) K82.run (by kernel_rfl) (by kernel_rfl) (by kernel_rfl) (by rfl) (by first | assumption | decide +kernel) (by decide +kernel) ⟨rfl, rfl, rfl, rfl, rfl, by decide +kernel⟩ ?hw ?hc
  case hw => w_witness2
  case hc =>
    refine Dk.walk_law (l := PySem.Challenge.rw_priceplans_k82_schemes_and_databases_rec) (n := 63) (k := 41) (x := "_law_script") rfl (by decide) (by kernel_rfl) ⟨rfl, by decide, by decide⟩ ?F
    intro w mg fa h Y G hmg0
    obtain ⟨K, KX, c⟩ := Y
    have hmg : mg ("law" : PySem.Str) = some (.ref fa) := by
      have e : (HandSHeadRun.topDef (OpenLaw.row PySem.Challenge.rw_priceplans_k82_schemes_and_databases_rec).prog 29).name = ("law" : PySem.Str) := by kernel_rfl
      rw [← e]
      exact hmg0
    obtain ⟨fd, hb, hF⟩ := K82.facts (P := (PySem.Challenge.rw_priceplans_k82_schemes_and_databases_rec).prog) (w := w) KX G hmg c
    exact ⟨K, fd, KX, hb, hF⟩
