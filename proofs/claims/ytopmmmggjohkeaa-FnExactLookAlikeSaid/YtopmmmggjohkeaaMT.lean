/- Plain words on times of words and on equal lists. -/
import Derived.Test.YtopmmmggjohkeaaMS
import Derived.Test.YtopmmmggjohkeaaFAx9
import Derived.Test.YtopmmmggjohkeaaFAx10
import Derived.Test.YtopmmmggjohkeaaFAx13
import Derived.Test.YtopmmmggjohkeaaFAx15 -- home: spec_fsTime.f impl_spellTime.f spec_fsTimes.f spec_l1Same.f slices_Equal_int_int.f
namespace Go.Proofs.Ytopmmmggjohkeaa.MS
open Go.RowKit Go.Proofs.Ytopmmmggjohkeaa.MB Go.Proofs.Ytopmmmggjohkeaa.FA Go.Proofs.YtopmmmggjohkeaaW.PrintWords Go.Proofs.YtopmmmggjohkeaaW.PrintLast Go.Proofs.YtopmmmggjohkeaaW.PrintMore
def sumf (g : Nat → Int) : Nat → Nat → Int
  | _, 0 => 0
  | i, d + 1 => g i + sumf g (i + 1) d
theorem sumf_bd (g : Nat → Int) (B : Int) (hB : 0 ≤ B) : ∀ d i, (∀ j, i ≤ j → 0 ≤ g j ∧ g j ≤ B) → 0 ≤ sumf g i d ∧ sumf g i d ≤ B * d
  | 0, i, _ => by simp [sumf]
  | d + 1, i, h => by
    have h1 := sumf_bd g B hB d (i + 1) (fun j hj => h j (by omega))
    have h2 := h i (Nat.le_refl _)
    have e : B * ((d + 1 : Nat) : Int) = B * d + B := by rw [Int.natCast_add, Int.mul_add]; simp
    unfold sumf; omega
theorem sumf_plus (g : Nat → Int) (c : Int) : ∀ d i, sumf (fun j => g j + c) i d = sumf g i d + c * d
  | 0, i => by simp [sumf]
  | d + 1, i => by
    have e : c * ((d + 1 : Nat) : Int) = c * d + c := by rw [Int.natCast_add, Int.mul_add]; simp
    unfold sumf; rw [sumf_plus g c d (i + 1)]; omega
theorem sumf_congr {g g' : Nat → Int} : ∀ d i, (∀ j, i ≤ j → g j = g' j) → sumf g i d = sumf g' i d
  | 0, i, _ => rfl
  | d + 1, i, h => by unfold sumf; rw [h i (Nat.le_refl _), sumf_congr d (i + 1) (fun j hj => h j (by omega))]
def step (l : List Int) (c : Int) (j : Nat) : Int := if rd l (j : Int) = rd l ((j : Int) - 1) then 1 else c
/-- The time of shapes. -/
def time (l : List Int) (h c : Int) : Int := h * l.length + sumf (step l c) 1 (l.length - 1)
theorem step_bd (l : List Int) {c : Int} (h0 : 0 ≤ c) (h1 : c ≤ 100) (j : Nat) : 0 ≤ step l c j ∧ step l c j ≤ 100 := by unfold step; split <;> omega
theorem spellTime_l0 (l : List Int) (c : Int) (h0 : 0 ≤ c) (h1 : c ≤ 100) (hn : l.length ≤ 8) : ∀ (d k i : Nat) (x : Int), 0 ≤ x → x ≤ 10000 - 100 * d → 1 ≤ i → i + d = l.length → d < k → impl_spellTime.l0 k l c x (i : Int) = some (x + sumf (step l c) i d) := by
  intro d
  induction d with
  | zero =>
    intro k i x hx0 hx1 hi1 hi hk
    obtain ⟨k, rfl⟩ : ∃ q, k = q + 1 := ⟨k - 1, by omega⟩
    simp only [impl_spellTime.l0]
    rw [if_neg (by omega)]; simp [sumf]
  | succ d ih =>
    intro k i x hx0 hx1 hi1 hi hk
    obtain ⟨k, rfl⟩ : ∃ q, k = q + 1 := ⟨k - 1, by omega⟩
    have hs := step_bd l h0 h1 i
    simp only [impl_spellTime.l0]
    rw [wr (x := (i : Int) - 1) (by omega) (by omega), if_pos (by omega), if_pos (by omega), if_pos (by omega), if_pos (by omega), up (n := l.length) (by omega) (by omega)]
    unfold sumf
    rw [← Int.add_assoc]
    unfold step at hs ⊢
    by_cases he : rd l (i : Int) = rd l ((i : Int) - 1)
    · rw [if_pos he, if_pos he, wr (x := x + 1) (by omega) (by omega)]
      exact ih k (i + 1) (x + 1) (by omega) (by omega) (by omega) (by omega) (by omega)
    · rw [if_neg he, if_neg he, wr (x := x + c) (by omega) (by omega)]
      exact ih k (i + 1) (x + c) (by omega) (by omega) (by omega) (by omega) (by omega)
theorem time_impl (l : List Int) (h c : Int) (k : Nat) (hh0 : 0 ≤ h) (hh1 : h ≤ 100) (h0 : 0 ≤ c) (h1 : c ≤ 100) (hl : 1 ≤ l.length) (hn : l.length ≤ 8) (hk : 8 < k) : impl_spellTime.f k l h c = some (time l h c) := by
  unfold impl_spellTime.f time
  have e0 : 0 ≤ h * (l.length : Int) := Int.mul_nonneg hh0 (by omega)
  have e1 : h * (l.length : Int) ≤ 100 * 8 := Int.mul_le_mul hh1 (by omega) (by omega) (by omega)
  rw [wr (x := h * (l.length : Int)) (by omega) (by omega)]
  exact spellTime_l0 l c h0 h1 hn (l.length - 1) k 1 _ e0 (by omega) (by omega) (by omega) (by omega)
def part (l : List Int) (h c : Int) (j : Nat) : Int := (if j = 0 then 0 else step l c j) + h
theorem part_zero (l : List Int) (h c : Int) : part l h c 0 = h := by simp [part]
theorem part_pos (l : List Int) (h c : Int) {j : Nat} (hj : j ≠ 0) : part l h c j = step l c j + h := by simp [part, hj]
theorem fsTime_l0 (l : List Int) (h c : Int) (hh0 : 0 ≤ h) (hh1 : h ≤ 100) (h0 : 0 ≤ c) (h1 : c ≤ 100) (hn : l.length ≤ 8) : ∀ (d k i : Nat) (x : Int), 0 ≤ x → x ≤ 10000 - 200 * d → i + d = l.length → d < k →
    spec_fsTime.l0 k l h c x l (l.length : Int) (i : Int) = some (x + sumf (part l h c) i d) := by
  intro d
  induction d with
  | zero =>
    intro k i x hx0 hx1 hi hk
    obtain ⟨k, rfl⟩ : ∃ q, k = q + 1 := ⟨k - 1, by omega⟩
    simp only [spec_fsTime.l0]
    rw [if_neg (by omega)]; simp [sumf]
  | succ d ih =>
    intro k i x hx0 hx1 hi hk
    obtain ⟨k, rfl⟩ : ∃ q, k = q + 1 := ⟨k - 1, by omega⟩
    simp only [spec_fsTime.l0]
    rw [if_pos (by omega), if_pos (by omega), if_pos (by omega), up (n := l.length) (by omega) (by omega)]
    unfold sumf
    rw [← Int.add_assoc]
    by_cases hz : i = 0
    · subst hz
      rw [part_zero, if_pos (by omega), wr (x := x + h) (by omega) (by omega)]
      exact ih k 1 (x + h) (by omega) (by omega) (by omega) (by omega)
    · have hs := step_bd l h0 h1 i
      rw [if_neg (by omega), wr (x := (i : Int) - 1) (by omega) (by omega), if_pos (by omega), if_pos (by omega)]
      rw [part_pos l h c hz, ← Int.add_assoc]
      unfold step at hs ⊢
      by_cases he : rd l (i : Int) = rd l ((i : Int) - 1)
      · rw [if_pos he, if_pos he, wr (x := x + 1) (by omega) (by omega), wr (x := x + 1 + h) (by omega) (by omega)]
        exact ih k (i + 1) (x + 1 + h) (by omega) (by omega) (by omega) (by omega)
      · rw [if_neg he, if_neg he, wr (x := x + c) (by omega) (by omega), wr (x := x + c + h) (by omega) (by omega)]
        exact ih k (i + 1) (x + c + h) (by omega) (by omega) (by omega) (by omega)
theorem time_spec (l : List Int) (h c : Int) (k : Nat) (hh0 : 0 ≤ h) (hh1 : h ≤ 100) (h0 : 0 ≤ c) (h1 : c ≤ 100) (hl : 1 ≤ l.length) (hn : l.length ≤ 8) (hk : 8 < k) : spec_fsTime.f k l h c = some (time l h c) := by
  unfold spec_fsTime.f
  have hf : spec_fsTime.l0 k l h c 0 l (l.length : Int) 0 = some (0 + sumf (part l h c) 0 l.length) := fsTime_l0 l h c hh0 hh1 h0 h1 hn l.length k 0 0 (by omega) (by omega) (by omega) (by omega)
  rw [hf]
  unfold time
  rw [show sumf (part l h c) 0 l.length = sumf (fun j => (if j = 0 then 0 else step l c j) + h) 0 l.length from rfl, sumf_plus]
  obtain ⟨n, hn2⟩ : ∃ n, l.length = n + 1 := ⟨l.length - 1, by omega⟩
  rw [hn2]
  congr 1
  have e : sumf (fun j => if j = 0 then 0 else step l c j) 0 (n + 1) = sumf (step l c) 1 (n + 1 - 1) := by
    conv => lhs; unfold sumf
    rw [sumf_congr (g' := step l c) n 1 (fun j hj => by simp [show j ≠ 0 from by omega])]
    simp
  rw [e]; omega
theorem times_eq (h c : Int) : spec_fsTimes.f h c = some (decide (1 ≤ h ∧ h ≤ 100) && decide (0 ≤ c ∧ c ≤ 100)) := by
  unfold spec_fsTimes.f
  simp only [in_some]
  cases decide (1 ≤ h ∧ h ≤ 100) <;> simp
/-- Are two lists the same? -/
def same (a b : List Int) : Bool := decide (a.length = b.length) && from_ (fun j => decide (rd a (j : Int) = rd b (j : Int))) 0 a.length
theorem same_l0 (a b : List Int) (hn : a.length ≤ 4611686018427387903) (hl : a.length = b.length) : ∀ (d k i : Nat), i + d = a.length → d < k →
    spec_l1Same.l0 k a b (a.length : Int) (i : Int) = some (from_ (fun j => decide (rd a (j : Int) = rd b (j : Int))) i d) ∧
    slices_Equal_int_int.l0 k a b (a.length : Int) (i : Int) = some (from_ (fun j => decide (rd a (j : Int) = rd b (j : Int))) i d) := by
  intro d
  induction d with
  | zero =>
    intro k i hi hk
    obtain ⟨k, rfl⟩ : ∃ q, k = q + 1 := ⟨k - 1, by omega⟩
    simp only [spec_l1Same.l0, slices_Equal_int_int.l0]
    refine ⟨?_, ?_⟩ <;> rw [if_neg (by omega), from_zero]
  | succ d ih =>
    intro k i hi hk
    obtain ⟨k, rfl⟩ : ∃ q, k = q + 1 := ⟨k - 1, by omega⟩
    obtain ⟨h1, h2⟩ := ih k (i + 1) (by omega) (by omega)
    simp only [spec_l1Same.l0, slices_Equal_int_int.l0]
    refine ⟨?_, ?_⟩
    · rw [if_pos (by omega), if_pos (by omega), if_pos (by omega), if_pos (by omega), from_succ, up (n := a.length) (by omega) hn, h1]
      by_cases he : rd a (i : Int) = rd b (i : Int) <;> simp [he]
    · rw [if_pos (by omega), if_pos (by omega), if_pos (by omega), if_pos (by omega), from_succ, up (n := a.length) (by omega) hn, h2]
      by_cases he : rd a (i : Int) = rd b (i : Int) <;> simp [he]
theorem same_spec (a b : List Int) (k : Nat) (hn : a.length ≤ 1048576) (hk : a.length < k) : spec_l1Same.f k a b = some (same a b) := by
  unfold spec_l1Same.f same
  by_cases h : a.length = b.length
  · have := (same_l0 a b (by omega) h a.length k 0 (by omega) hk).1
    rw [show ((0 : Nat) : Int) = 0 from rfl] at this
    rw [if_pos (by omega), this]; simp [h]
  · rw [if_neg (by omega)]; simp [h]
theorem same_impl (a b : List Int) (k : Nat) (hn : a.length ≤ 1048576) (hk : a.length < k) : slices_Equal_int_int.f k a b = some (same a b) := by
  unfold slices_Equal_int_int.f same
  by_cases h : a.length = b.length
  · have := (same_l0 a b (by omega) h a.length k 0 (by omega) hk).2
    rw [show ((0 : Nat) : Int) = 0 from rfl] at this
    rw [if_pos (by omega), this]; simp [h]
  · rw [if_neg (by omega)]; simp [h]
end Go.Proofs.Ytopmmmggjohkeaa.MS
