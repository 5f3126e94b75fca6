/- Plain words on hands, glosses and persons. -/
import Derived.Test.YtkhaofalaikegaaMW
import Derived.Test.YtkhaofalaikegaaFAx20
import Derived.Test.YtkhaofalaikegaaFAx23
import Derived.Test.YtkhaofalaikegaaFAx42
import Derived.Test.YtkhaofalaikegaaFAx43
import Derived.Test.YtkhaofalaikegaaFAx44
import Derived.Test.YtkhaofalaikegaaFAx45 -- home: spec_siHand.f impl_IsHand.f spec_enGloss.f impl_IsGloss.f spec_naOne.f impl_IsPerson.f
namespace Go.Proofs.Ytkhaofalaikegaa.MS
open Go.RowKit Go.Proofs.Ytkhaofalaikegaa.MB Go.Proofs.Ytkhaofalaikegaa.FA Go.Proofs.YtkhaofalaikegaaW.PrintWords Go.Proofs.YtkhaofalaikegaaW.PrintLast Go.Proofs.YtkhaofalaikegaaW.PrintMore
theorem enGloss_l0 (s : ByteArray) (hn : s.size ≤ 4611686018427387903) : ∀ (d k i : Nat), i + d = s.size → d < k →
    spec_enGloss.l0 k s (i : Int) = some (from_ (cap s) i d && decide (1 ≤ (s.size : Int) ∧ (s.size : Int) ≤ 8)) := by
  intro d
  induction d with
  | zero =>
    intro k i hi hk
    obtain ⟨k, rfl⟩ : ∃ q, k = q + 1 := ⟨k - 1, by omega⟩
    simp only [spec_enGloss.l0]
    rw [if_neg (by omega), from_zero, in_some]; rfl
  | succ d ih =>
    intro k i hi hk
    obtain ⟨k, rfl⟩ : ∃ q, k = q + 1 := ⟨k - 1, by omega⟩
    simp only [spec_enGloss.l0]
    rw [if_pos (by omega), if_pos (by omega), from_succ, up (n := s.size) (by omega) hn, ih k (i + 1) (by omega) (by omega)]
    unfold cap
    by_cases h1 : bt s (i : Int) < 65
    · rw [if_pos h1]; simp [show ¬ (65 ≤ bt s (i : Int)) from by omega]
    · rw [if_neg h1]
      by_cases h2 : bt s (i : Int) > 90
      · rw [if_pos h2]; simp [show ¬ (bt s (i : Int) ≤ 90) from by omega]
      · rw [if_neg h2]; simp [show 65 ≤ bt s (i : Int) from by omega, show bt s (i : Int) ≤ 90 from by omega]
theorem gloss_spec (s : ByteArray) (k : Nat) (hn : s.size ≤ 4611686018427387903) (hk : s.size < k) : spec_enGloss.f k s = some (word s) := enGloss_l0 s hn s.size k 0 (by omega) hk
theorem gloss_impl (s : ByteArray) (k : Nat) (hn : s.size ≤ 4611686018427387903) (hk : s.size < k) : impl_IsGloss.f k s = some (word s) := by
  unfold impl_IsGloss.f
  rw [show (⟨#[65, 66, 67, 68, 69, 70, 71, 72, 73, 74, 75, 76, 77, 78, 79, 80, 81, 82, 83, 84, 85, 86, 87, 88, 89, 90]⟩ : ByteArray) = caps from rfl, word_impl s k hn hk]; rfl
/-- The small letters. -/
def smalls : ByteArray := ⟨#[97, 98, 99, 100, 101, 102, 103, 104, 105, 106, 107, 108, 109, 110, 111, 112, 113, 114, 115, 116, 117, 118, 119, 120, 121, 122]⟩
theorem smalls_fin : ∀ n ∈ List.range 256, decide (¬ Lib.indexByte smalls.data.toList (n : Int).toNat.toUInt8 < 0) = decide (97 ≤ n ∧ n ≤ 122) := by decide +kernel
theorem smalls_has (s : ByteArray) (i : Nat) : has smalls s i = decide (97 ≤ bt s (i : Int) ∧ bt s (i : Int) ≤ 122) := by
  obtain ⟨h0, h1⟩ := bt_range s (i : Int)
  have h := smalls_fin (bt s i).toNat (List.mem_range.2 (by omega))
  rw [Int.toNat_of_nonneg h0] at h
  unfold has
  rw [h]
  exact decide_eq_decide.2 ⟨fun h => by omega, fun h => by omega⟩
theorem naName_l0 (s : ByteArray) (hn : s.size ≤ 9223372036854775807) : ∀ (d k i : Nat), i + d = s.size → d < k →
    spec_naName.l0 k s (i : Int) = some (from_ (has smalls s) i d && decide (1 ≤ (s.size : Int) ∧ (s.size : Int) ≤ 8)) := by
  intro d
  induction d with
  | zero =>
    intro k i hi hk
    obtain ⟨k, rfl⟩ : ∃ q, k = q + 1 := ⟨k - 1, by omega⟩
    simp only [spec_naName.l0]
    rw [if_neg (by omega), from_zero, in_some]; rfl
  | succ d ih =>
    intro k i hi hk
    obtain ⟨k, rfl⟩ : ∃ q, k = q + 1 := ⟨k - 1, by omega⟩
    have hw : wrap64 ((i : Int) + 1) = ((i + 1 : Nat) : Int) := by unfold wrap64; omega
    simp only [spec_naName.l0]
    rw [if_pos (by omega), if_pos (by omega), from_succ, hw, ih k (i + 1) (by omega) (by omega), smalls_has]
    by_cases h1 : bt s (i : Int) < 97
    · rw [if_pos h1]; simp [show ¬ (97 ≤ bt s (i : Int)) from by omega]
    · rw [if_neg h1]
      by_cases h2 : bt s (i : Int) > 122
      · rw [if_pos h2]; simp [show ¬ (bt s (i : Int) ≤ 122) from by omega]
      · rw [if_neg h2]; simp [show 97 ≤ bt s (i : Int) from by omega, show bt s (i : Int) ≤ 122 from by omega]
/-- Is this a person? -/
def person (s : ByteArray) (a b c : Int) : Bool := from_ (has smalls s) 0 s.size && (decide (1 ≤ (s.size : Int) ∧ (s.size : Int) ≤ 8) && (decide (0 ≤ a ∧ a ≤ 25) && (decide (0 ≤ b ∧ b ≤ 9) && decide (1800 ≤ c ∧ c ≤ 2200))))
theorem person_spec (s : ByteArray) (a b c : Int) (k : Nat) (hn : s.size ≤ 9223372036854775807) (hk : s.size < k) : spec_naOne.f k s a b c = some (person s a b c) := by
  have h : spec_naName.f k s = some _ := naName_l0 s hn s.size k 0 (by omega) hk
  unfold spec_naOne.f person spec_naLetter.f spec_naPlace.f spec_naYear.f
  rw [h]
  simp only [in_some, Option.bind_some]
  cases from_ (has smalls s) 0 s.size <;> cases decide (1 ≤ (s.size : Int) ∧ (s.size : Int) ≤ 8) <;> cases decide (0 ≤ a ∧ a ≤ 25) <;> cases decide (0 ≤ b ∧ b ≤ 9) <;> simp
theorem person_impl (s : ByteArray) (a b c : Int) (k : Nat) (hn : s.size ≤ 9223372036854775807) (hk : s.size < k) : impl_IsPerson.f k s a b c = some (person s a b c) := by
  unfold impl_IsPerson.f person impl_isWordOf.f impl_isYear.f
  rw [show (⟨#[97, 98, 99, 100, 101, 102, 103, 104, 105, 106, 107, 108, 109, 110, 111, 112, 113, 114, 115, 116, 117, 118, 119, 120, 121, 122]⟩ : ByteArray) = smalls from rfl, hasOnly_eq smalls s k hn hk]
  simp only [within_some, Option.bind_some]
  cases from_ (has smalls s) 0 s.size <;> cases decide (1 ≤ (s.size : Int) ∧ (s.size : Int) ≤ 8) <;> cases decide (0 ≤ a ∧ a ≤ 25) <;> cases decide (0 ≤ b ∧ b ≤ 9) <;> simp
/-! shapes, orientations, places -/
def place (a b : Int) (c : Bool) : Bool := decide (0 ≤ a ∧ a ≤ 9) && (decide (-1 ≤ b ∧ b ≤ 1) && (decide (0 < a) || !c))
theorem place_spec (a b : Int) (c : Bool) : spec_plGood.f a b c = some (place a b c) := by
  unfold spec_plGood.f place
  simp only [in_some, Option.bind_some]
  by_cases h1 : 0 ≤ a ∧ a ≤ 9 <;> by_cases h2 : -1 ≤ b ∧ b ≤ 1 <;> by_cases h3 : 0 < a <;> simp [h1, h2, h3]
theorem place_impl (a b : Int) (c : Bool) : impl_IsPlace.f a b c = some (place a b c) := by
  unfold impl_IsPlace.f place
  simp only [within_some, Option.bind_some]
  by_cases h1 : 0 ≤ a ∧ a ≤ 9
  · by_cases h2 : -1 ≤ b ∧ b ≤ 1
    · cases c
      · simp [h1, h2]
      · by_cases h3 : a = 0
        · simp [h3]
        · have : 0 < a := by omega
          simp [h1, h2, h3, this]
    · simp [h1, h2]
  · simp [h1]
def L6 : List Int := [0, 1, 2, 3, 4, 5]
theorem six {a : Int} (h0 : 0 ≤ a) (h5 : a ≤ 5) : a ∈ L6 := by
  have : a = 0 ∨ a = 1 ∨ a = 2 ∨ a = 3 ∨ a = 4 ∨ a = 5 := by omega
  rcases this with rfl | rfl | rfl | rfl | rfl | rfl <;> decide
theorem orDir_some (a : Int) : spec_orDir.f a = some (decide (0 ≤ a ∧ a ≤ 5)) := by
  unfold spec_orDir.f; rw [in_some]; rfl
def orient (a b : Int) : Bool := decide (0 ≤ a ∧ a ≤ 5) && (decide (0 ≤ b ∧ b ≤ 5) && decide (a / 2 ≠ b / 2))
theorem orient_fin : ∀ a ∈ L6, ∀ b ∈ L6, spec_orGood.f a b = some (orient a b) ∧ impl_IsOrient.f a b = some (orient a b) := by decide +kernel
theorem orient_spec (a b : Int) : spec_orGood.f a b = some (orient a b) := by
  by_cases ha : 0 ≤ a ∧ a ≤ 5
  · by_cases hb : 0 ≤ b ∧ b ≤ 5
    · exact (orient_fin a (six ha.1 ha.2) b (six hb.1 hb.2)).1
    · simp [spec_orGood.f, orient, orDir_some, ha, hb]
  · simp [spec_orGood.f, orient, orDir_some, ha]
theorem orient_impl (a b : Int) : impl_IsOrient.f a b = some (orient a b) := by
  by_cases ha : 0 ≤ a ∧ a ≤ 5
  · by_cases hb : 0 ≤ b ∧ b ≤ 5
    · exact (orient_fin a (six ha.1 ha.2) b (six hb.1 hb.2)).2
    · simp [impl_IsOrient.f, orient, within_some, ha, hb]
  · simp [impl_IsOrient.f, orient, within_some, ha]
/-- May these fingers be spread? -/
def wide (a b c d : Int) : Bool := (decide (a = 0) && decide (b = 0)) || ((decide (b = 0) && decide (c = 0)) || (decide (c = 0) && decide (d = 0)))
theorem wide_spec (t a b c d : Int) (s : Bool) (k : Nat) (hk : 5 < k) : spec_shWide.f k t a b c d s = some (wide a b c d) := by
  refine at_rounds (g := fun k => spec_shWide.f k t a b c d s) (fun k => spec_shWide.mono _ _ _ _ _ _ k) (k := 6) (by omega) ?_
  unfold spec_shWide.f spec_shFingers.f wide
  simp only [Option.bind_some]
  have w0 : wrap64 0 = 0 := wr (by decide) (by decide)
  have w1 : wrap64 1 = 1 := wr (by decide) (by decide)
  have w2 : wrap64 2 = 2 := wr (by decide) (by decide)
  have w3 : wrap64 3 = 3 := wr (by decide) (by decide)
  have w4 : wrap64 4 = 4 := wr (by decide) (by decide)
  have r0 : ∀ x y z u : Int, rd [x, y, z, u] 0 = x := fun _ _ _ _ => rfl
  have r1 : ∀ x y z u : Int, rd [x, y, z, u] 1 = y := fun _ _ _ _ => rfl
  have r2 : ∀ x y z u : Int, rd [x, y, z, u] 2 = z := fun _ _ _ _ => rfl
  have r3 : ∀ x y z u : Int, rd [x, y, z, u] 3 = u := fun _ _ _ _ => rfl
  by_cases ha : a = 0 <;> by_cases hb : b = 0 <;> by_cases hc : c = 0 <;> by_cases hd : d = 0 <;> simp [spec_shWide.l0, w0, w1, w2, w3, w4, r0, r1, r2, r3, ha, hb, hc, hd]
theorem wide_impl (t a b c d : Int) (s : Bool) : impl_Shape_maySpread.f t a b c d s = some (wide a b c d) := by
  unfold impl_Shape_maySpread.f wide
  by_cases ha : a = 0 <;> by_cases hb : b = 0 <;> by_cases hc : c = 0 <;> by_cases hd : d = 0 <;> simp [ha, hb, hc, hd]
/-- Is this a shape? -/
def hshape (t a b c d : Int) (s : Bool) : Bool := decide (0 ≤ t ∧ t ≤ 2) && (([a, b, c, d].all fun x => decide (0 ≤ x ∧ x ≤ 2)) && (!s || wide a b c d))
theorem hshape_spec (t a b c d : Int) (s : Bool) (k : Nat) (hk : 5 < k) : spec_shGood.f k t a b c d s = some (hshape t a b c d s) := by
  unfold spec_shGood.f hshape
  rw [in_some]
  simp only [Option.bind_some, spec_shFingers.f]
  rw [l1All_eq [a, b, c, d] 0 2 k (by simp) (by simp; omega), wide_spec t a b c d s k hk]
  simp only [Option.bind_some]
  generalize ([a, b, c, d].all fun x => decide (0 ≤ x ∧ x ≤ 2)) = q
  cases decide (0 ≤ t ∧ t ≤ 2) <;> cases q <;> cases s <;> simp
theorem hshape_impl (t a b c d : Int) (s : Bool) : impl_IsShape.f t a b c d s = some (hshape t a b c d s) := by
  unfold impl_IsShape.f hshape impl_Shape_bends.f
  simp only [Option.bind_some]
  rw [if_pos (by simp), allWithin_eq, wide_impl]
  simp only [Option.bind_some, List.cons_append, List.nil_append, List.all_cons (a := t)]
  generalize ([a, b, c, d].all fun x => decide (0 ≤ x ∧ x ≤ 2)) = q
  cases decide (0 ≤ t ∧ t ≤ 2) <;> cases q <;> cases s <;> simp
theorem hand_same (t a b c d : Int) (s : Bool) (o1 o2 p1 p2 : Int) (p3 : Bool) (m : ByteArray) (r : Int) (k : Nat) (hn : m.size ≤ 9223372036854775807) (hk : m.size + 12 < k) :
    ∃ z, spec_siHand.f k t a b c d s o1 o2 p1 p2 p3 m r = some z ∧ impl_IsHand.f k t a b c d s o1 o2 p1 p2 p3 m r = some z := by
  obtain ⟨z, h1, h2⟩ := move_same m r k hn hk
  unfold spec_siHand.f impl_IsHand.f
  rw [hshape_spec t a b c d s k (by omega), hshape_impl, orient_spec, orient_impl, place_spec, place_impl, h1, h2]
  simp only [Option.bind_some]
  cases hshape t a b c d s <;> cases orient o1 o2 <;> cases place p1 p2 p3 <;> exact ⟨_, rfl, rfl⟩
end Go.Proofs.Ytkhaofalaikegaa.MS
