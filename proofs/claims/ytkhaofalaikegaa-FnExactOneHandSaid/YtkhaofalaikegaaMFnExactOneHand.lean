/- The words that the plain law behind FnExactOneHand needs. -/
import Derived.Test.YtkhaofalaikegaaFBx1
import Derived.Test.YtkhaofalaikegaaFBx2
import Derived.Test.YtkhaofalaikegaaFBx3
import Derived.Test.YtkhaofalaikegaaFBx4
import Derived.Test.YtkhaofalaikegaaFBx5
import Derived.Test.YtkhaofalaikegaaFBx7
import Derived.Test.YtkhaofalaikegaaFBx8
import Derived.Test.YtkhaofalaikegaaFBx9
import Derived.Test.YtkhaofalaikegaaFBx10 -- home: impl_IsHand.f impl_IsMove.f impl_IsOrient.f impl_IsPlace.f impl_IsShape.f impl_Shape_bends.f impl_Shape_maySpread.f impl_allWithin.f impl_hasOnly.f impl_within.f spec_l1All.f spec_l1In.f spec_mvGood.f spec_mvIndex.f spec_mvSteps.f spec_orDir.f spec_orGood.f spec_plGood.f spec_shFingers.f spec_shGood.f spec_shWide.f spec_siHand.f strings_IndexByte.f
namespace Go.Proofs.Ytkhaofalaikegaa.MFnExactOneHand
open Go.RowKit Go.Proofs.Ytkhaofalaikegaa.FB Go.Proofs.YtkhaofalaikegaaW.PrintWords Go.Proofs.YtkhaofalaikegaaW.PrintLast Go.Proofs.YtkhaofalaikegaaW.PrintMore
set_option linter.unusedVariables false

theorem wr {x : Int} (h0 : -4611686018427387904 ≤ x) (h1 : x ≤ 4611686018427387904) : wrap64 x = x := by unfold wrap64; omega
theorem up {i n : Nat} (h : i < n) (hn : n ≤ 4611686018427387903) : wrap64 ((i : Int) + 1) = ((i + 1 : Nat) : Int) := by rw [wr (by omega) (by omega)]; rfl
theorem rd_nat (l : List Int) (i : Nat) : rd l (i : Int) = l.getD i 0 := rfl

theorem in_some (a b c : Int) : spec_l1In.f a b c = some (decide (b ≤ a ∧ a ≤ c)) := by
  unfold spec_l1In.f
  by_cases h : b ≤ a <;> simp [h]
theorem within_some (a b c : Int) : impl_within.f a b c = some (decide (b ≤ a ∧ a ≤ c)) := by
  unfold impl_within.f
  by_cases h : b ≤ a <;> simp [h]
/-- Something holds for the d places from i on. -/
def from_ (p : Nat → Bool) (i d : Nat) : Bool := (List.range' i d).all p
theorem from_zero (p : Nat → Bool) (i : Nat) : from_ p i 0 = true := rfl
theorem from_succ (p : Nat → Bool) (i d : Nat) : from_ p i (d + 1) = (p i && from_ p (i + 1) d) := by
  unfold from_; rw [List.range'_succ]; rfl
theorem from_iff (p : Nat → Bool) (n : Nat) : from_ p 0 n = true ↔ ∀ i, i < n → p i = true := by
  unfold from_
  rw [List.all_eq_true]
  exact ⟨fun h i hi => h i (by rw [List.mem_range']; exact ⟨i, hi, by omega⟩), fun h i hi => h i (by rw [List.mem_range'] at hi; obtain ⟨j, hj, rfl⟩ := hi; omega)⟩
theorem from_rd (p : Int → Bool) (l : List Int) : from_ (fun i => p (rd l (i : Int))) 0 l.length = l.all p := by
  rw [Bool.eq_iff_iff, from_iff, List.all_eq_true]
  constructor
  · intro h x hx
    obtain ⟨i, hi, rfl⟩ := List.getElem_of_mem hx
    have := h i hi
    rwa [rd_nat, List.getD_eq_getElem?_getD, List.getElem?_eq_getElem hi] at this
  · intro h i hi
    rw [rd_nat, List.getD_eq_getElem?_getD, List.getElem?_eq_getElem hi]
    exact h _ (List.getElem_mem hi)
theorem l1All_l0 (l : List Int) (lo hi : Int) (hn : l.length ≤ 4611686018427387903) : ∀ (d k i : Nat), i + d = l.length → d < k →
    spec_l1All.l0 k lo hi l (l.length : Int) (i : Int) = some (from_ (fun j => decide (lo ≤ rd l (j : Int) ∧ rd l (j : Int) ≤ hi)) i d) := by
  intro d
  induction d with
  | zero =>
    intro k i hi hk
    obtain ⟨k, rfl⟩ : ∃ q, k = q + 1 := ⟨k - 1, by omega⟩
    simp only [spec_l1All.l0]
    rw [if_neg (by omega), from_zero]
  | succ d ih =>
    intro k i hi hk
    obtain ⟨k, rfl⟩ : ∃ q, k = q + 1 := ⟨k - 1, by omega⟩
    simp only [spec_l1All.l0]
    rw [if_pos (by omega), if_pos (by omega), if_pos (by omega), in_some, from_succ, up (n := l.length) (by omega) hn, ih k (i + 1) (by omega) (by omega)]
    simp only [Option.bind_some]
    cases decide (lo ≤ rd l (i : Int) ∧ rd l (i : Int) ≤ _) <;> rfl
theorem l1All_eq (l : List Int) (lo hi : Int) (k : Nat) (hn : l.length ≤ 1048576) (hk : l.length < k) : spec_l1All.f k l lo hi = some (l.all fun x => decide (lo ≤ x ∧ x ≤ hi)) := by
  unfold spec_l1All.f
  rw [← from_rd]
  exact l1All_l0 l lo hi (by omega) l.length k 0 (by omega) hk
theorem allWithin_eq (l : List Int) (lo hi : Int) : impl_allWithin.f l lo hi = some (l.all fun x => decide (lo ≤ x ∧ x ≤ hi)) := by
  unfold impl_allWithin.f
  rw [List.not_any_eq_all_not]
  simp
/-- Does the byte at a place stand among some letters? -/
def has (C s : ByteArray) (i : Nat) : Bool := decide (¬ Lib.indexByte C.data.toList (bt s (i : Int)).toNat.toUInt8 < 0)
theorem hasOnly_any (C s : ByteArray) (hn : s.size ≤ 9223372036854775807) : ∀ (d k i : Nat), i + d = s.size → d < k →
    impl_hasOnly.l0 k s C (s.size : Int) (i : Int) = some (from_ (has C s) i d) := by
  intro d
  induction d with
  | zero =>
    intro k i hi hk
    obtain ⟨k, rfl⟩ : ∃ q, k = q + 1 := ⟨k - 1, by omega⟩
    simp only [impl_hasOnly.l0]
    rw [if_neg (by omega), from_zero]
  | succ d ih =>
    intro k i hi hk
    obtain ⟨k, rfl⟩ : ∃ q, k = q + 1 := ⟨k - 1, by omega⟩
    have hw : wrap64 ((i : Int) + 1) = ((i + 1 : Nat) : Int) := by unfold wrap64; omega
    simp only [impl_hasOnly.l0, strings_IndexByte.f]
    rw [if_pos (by omega), if_pos (by omega), if_pos (by omega), from_succ, hw, ih k (i + 1) (by omega) (by omega)]
    simp only [Option.bind_some]
    unfold has
    by_cases h1 : Lib.indexByte C.data.toList (bt s (i : Int)).toNat.toUInt8 < 0
    · rw [if_pos h1]; simp [h1]
    · rw [if_neg h1]; simp [h1]
theorem hasOnly_eq (C s : ByteArray) (k : Nat) (hn : s.size ≤ 9223372036854775807) (hk : s.size < k) : impl_hasOnly.f k s C = some (from_ (has C s) 0 s.size) := hasOnly_any C s hn s.size k 0 (by omega) hk
/-- The letters of the directions. -/
def dirs : ByteArray := ⟨#[117, 100, 108, 114, 102, 98]⟩
theorem dirs_fin : ∀ n ∈ List.range 256, spec_mvIndex.f 10 (n : Int) = some (Lib.indexByte dirs.data.toList (n : Int).toNat.toUInt8) := by decide +kernel
theorem mvIndex_eq (s : ByteArray) (i : Int) (k : Nat) (hk : 10 ≤ k) : spec_mvIndex.f k (bt s i) = some (Lib.indexByte dirs.data.toList (bt s i).toNat.toUInt8) := by
  obtain ⟨h0, h1⟩ := bt_range s i
  have h := dirs_fin (bt s i).toNat (List.mem_range.2 (by omega))
  rw [Int.toNat_of_nonneg h0] at h
  exact at_rounds (g := fun k => spec_mvIndex.f k (bt s i)) (fun k => spec_mvIndex.mono _ k) hk h
theorem mvSteps_l0 (s : ByteArray) (hn : s.size ≤ 9223372036854775807) : ∀ (d k i : Nat), i + d = s.size → d + 12 < k →
    spec_mvSteps.l0 k s (i : Int) = some (from_ (has dirs s) i d) := by
  intro d
  induction d with
  | zero =>
    intro k i hi hk
    obtain ⟨k, rfl⟩ : ∃ q, k = q + 1 := ⟨k - 1, by omega⟩
    simp only [spec_mvSteps.l0]
    rw [if_neg (by omega), from_zero]
  | succ d ih =>
    intro k i hi hk
    obtain ⟨k, rfl⟩ : ∃ q, k = q + 1 := ⟨k - 1, by omega⟩
    have hw : wrap64 ((i : Int) + 1) = ((i + 1 : Nat) : Int) := by unfold wrap64; omega
    simp only [spec_mvSteps.l0]
    rw [if_pos (by omega), if_pos (by omega), mvIndex_eq s _ k (by omega), from_succ, hw, ih k (i + 1) (by omega) (by omega)]
    simp only [Option.bind_some]
    unfold has
    by_cases h1 : Lib.indexByte dirs.data.toList (bt s (i : Int)).toNat.toUInt8 < 0
    · rw [if_pos h1]; simp [h1]
    · rw [if_neg h1]; simp [h1]
theorem mvSteps_eq (s : ByteArray) (k : Nat) (hn : s.size ≤ 9223372036854775807) (hk : s.size + 12 < k) : spec_mvSteps.f k s = some (from_ (has dirs s) 0 s.size) := mvSteps_l0 s hn s.size k 0 (by omega) hk
/-- Both tell the same of a movement. -/
theorem move_same (s : ByteArray) (r : Int) (k : Nat) (hn : s.size ≤ 9223372036854775807) (hk : s.size + 12 < k) : ∃ b, spec_mvGood.f k s r = some b ∧ impl_IsMove.f k s r = some b := by
  unfold spec_mvGood.f impl_IsMove.f
  rw [show (⟨#[117, 100, 108, 114, 102, 98]⟩ : ByteArray) = dirs from rfl, mvSteps_eq s k hn hk, hasOnly_eq dirs s k hn (by omega)]
  by_cases h6 : (s.size : Int) ≤ 6
  · rw [if_pos h6, if_pos h6]
    simp only [in_some, within_some, Option.bind_some]
    cases from_ (has dirs s) 0 s.size
    · exact ⟨false, rfl, rfl⟩
    · cases decide (1 ≤ r ∧ r ≤ 3)
      · exact ⟨false, rfl, rfl⟩
      · by_cases he : s.toList = []
        · exact ⟨r == 1, by simp [he], by simp [he]⟩
        · exact ⟨true, by simp [he], by simp [he]⟩
  · rw [if_neg h6, if_neg h6]; exact ⟨false, rfl, rfl⟩
def place (a b : Int) (c : Bool) : Bool := decide (0 ≤ a ∧ a ≤ 9) && (decide (-1 ≤ b ∧ b ≤ 1) && (decide (0 < a) || !c))
theorem place_spec (a b : Int) (c : Bool) : spec_plGood.f a b c = some (place a b c) := by
  unfold spec_plGood.f place
  simp only [in_some, Option.bind_some]
  by_cases h1 : 0 ≤ a ∧ a ≤ 9 <;> by_cases h2 : -1 ≤ b ∧ b ≤ 1 <;> by_cases h3 : 0 < a <;> simp [h1, h2, h3]
theorem place_impl (a b : Int) (c : Bool) : impl_IsPlace.f a b c = some (place a b c) := by
  unfold impl_IsPlace.f place
  simp only [within_some, Option.bind_some]
  by_cases h1 : 0 ≤ a ∧ a ≤ 9
  · by_cases h2 : -1 ≤ b ∧ b ≤ 1
    · cases c
      · simp [h1, h2]
      · by_cases h3 : a = 0
        · simp [h3]
        · have : 0 < a := by omega
          simp [h1, h2, h3, this]
    · simp [h1, h2]
  · simp [h1]
def L6 : List Int := [0, 1, 2, 3, 4, 5]
theorem six {a : Int} (h0 : 0 ≤ a) (h5 : a ≤ 5) : a ∈ L6 := by
  have : a = 0 ∨ a = 1 ∨ a = 2 ∨ a = 3 ∨ a = 4 ∨ a = 5 := by omega
  rcases this with rfl | rfl | rfl | rfl | rfl | rfl <;> decide
theorem orDir_some (a : Int) : spec_orDir.f a = some (decide (0 ≤ a ∧ a ≤ 5)) := by
  unfold spec_orDir.f; rw [in_some]; rfl
def orient (a b : Int) : Bool := decide (0 ≤ a ∧ a ≤ 5) && (decide (0 ≤ b ∧ b ≤ 5) && decide (a / 2 ≠ b / 2))
theorem orient_fin : ∀ a ∈ L6, ∀ b ∈ L6, spec_orGood.f a b = some (orient a b) ∧ impl_IsOrient.f a b = some (orient a b) := by decide +kernel
theorem orient_spec (a b : Int) : spec_orGood.f a b = some (orient a b) := by
  by_cases ha : 0 ≤ a ∧ a ≤ 5
  · by_cases hb : 0 ≤ b ∧ b ≤ 5
    · exact (orient_fin a (six ha.1 ha.2) b (six hb.1 hb.2)).1
    · simp [spec_orGood.f, orient, orDir_some, ha, hb]
  · simp [spec_orGood.f, orient, orDir_some, ha]
theorem orient_impl (a b : Int) : impl_IsOrient.f a b = some (orient a b) := by
  by_cases ha : 0 ≤ a ∧ a ≤ 5
  · by_cases hb : 0 ≤ b ∧ b ≤ 5
    · exact (orient_fin a (six ha.1 ha.2) b (six hb.1 hb.2)).2
    · simp [impl_IsOrient.f, orient, within_some, ha, hb]
  · simp [impl_IsOrient.f, orient, within_some, ha]
/-- May these fingers be spread? -/
def wide (a b c d : Int) : Bool := (decide (a = 0) && decide (b = 0)) || ((decide (b = 0) && decide (c = 0)) || (decide (c = 0) && decide (d = 0)))
theorem wide_spec (t a b c d : Int) (s : Bool) (k : Nat) (hk : 5 < k) : spec_shWide.f k t a b c d s = some (wide a b c d) := by
  refine at_rounds (g := fun k => spec_shWide.f k t a b c d s) (fun k => spec_shWide.mono _ _ _ _ _ _ k) (k := 6) (by omega) ?_
  unfold spec_shWide.f spec_shFingers.f wide
  simp only [Option.bind_some]
  have w0 : wrap64 0 = 0 := wr (by decide) (by decide)
  have w1 : wrap64 1 = 1 := wr (by decide) (by decide)
  have w2 : wrap64 2 = 2 := wr (by decide) (by decide)
  have w3 : wrap64 3 = 3 := wr (by decide) (by decide)
  have w4 : wrap64 4 = 4 := wr (by decide) (by decide)
  have r0 : ∀ x y z u : Int, rd [x, y, z, u] 0 = x := fun _ _ _ _ => rfl
  have r1 : ∀ x y z u : Int, rd [x, y, z, u] 1 = y := fun _ _ _ _ => rfl
  have r2 : ∀ x y z u : Int, rd [x, y, z, u] 2 = z := fun _ _ _ _ => rfl
  have r3 : ∀ x y z u : Int, rd [x, y, z, u] 3 = u := fun _ _ _ _ => rfl
  by_cases ha : a = 0 <;> by_cases hb : b = 0 <;> by_cases hc : c = 0 <;> by_cases hd : d = 0 <;> simp [spec_shWide.l0, w0, w1, w2, w3, w4, r0, r1, r2, r3, ha, hb, hc, hd]
theorem wide_impl (t a b c d : Int) (s : Bool) : impl_Shape_maySpread.f t a b c d s = some (wide a b c d) := by
  unfold impl_Shape_maySpread.f wide
  by_cases ha : a = 0 <;> by_cases hb : b = 0 <;> by_cases hc : c = 0 <;> by_cases hd : d = 0 <;> simp [ha, hb, hc, hd]
/-- Is this a shape? -/
def hshape (t a b c d : Int) (s : Bool) : Bool := decide (0 ≤ t ∧ t ≤ 2) && (([a, b, c, d].all fun x => decide (0 ≤ x ∧ x ≤ 2)) && (!s || wide a b c d))
theorem hshape_spec (t a b c d : Int) (s : Bool) (k : Nat) (hk : 5 < k) : spec_shGood.f k t a b c d s = some (hshape t a b c d s) := by
  unfold spec_shGood.f hshape
  rw [in_some]
  simp only [Option.bind_some, spec_shFingers.f]
  rw [l1All_eq [a, b, c, d] 0 2 k (by simp) (by simp; omega), wide_spec t a b c d s k hk]
  simp only [Option.bind_some]
  generalize ([a, b, c, d].all fun x => decide (0 ≤ x ∧ x ≤ 2)) = q
  cases decide (0 ≤ t ∧ t ≤ 2) <;> cases q <;> cases s <;> simp
theorem hshape_impl (t a b c d : Int) (s : Bool) : impl_IsShape.f t a b c d s = some (hshape t a b c d s) := by
  unfold impl_IsShape.f hshape impl_Shape_bends.f
  simp only [Option.bind_some]
  rw [if_pos (by simp), allWithin_eq, wide_impl]
  simp only [Option.bind_some, List.cons_append, List.nil_append, List.all_cons (a := t)]
  generalize ([a, b, c, d].all fun x => decide (0 ≤ x ∧ x ≤ 2)) = q
  cases decide (0 ≤ t ∧ t ≤ 2) <;> cases q <;> cases s <;> simp
theorem hand_same (t a b c d : Int) (s : Bool) (o1 o2 p1 p2 : Int) (p3 : Bool) (m : ByteArray) (r : Int) (k : Nat) (hn : m.size ≤ 9223372036854775807) (hk : m.size + 12 < k) :
    ∃ z, spec_siHand.f k t a b c d s o1 o2 p1 p2 p3 m r = some z ∧ impl_IsHand.f k t a b c d s o1 o2 p1 p2 p3 m r = some z := by
  obtain ⟨z, h1, h2⟩ := move_same m r k hn hk
  unfold spec_siHand.f impl_IsHand.f
  rw [hshape_spec t a b c d s k (by omega), hshape_impl, orient_spec, orient_impl, place_spec, place_impl, h1, h2]
  simp only [Option.bind_some]
  cases hshape t a b c d s <;> cases orient o1 o2 <;> cases place p1 p2 p3 <;> exact ⟨_, rfl, rfl⟩
end Go.Proofs.Ytkhaofalaikegaa.MFnExactOneHand
