/- The words that the plain law behind FnExactLeastTurns needs. -/
import Derived.Test.YtafpehjedkplpaaFAx2
import Derived.Test.YtafpehjedkplpaaFAx3
import Derived.Test.YtafpehjedkplpaaFAx29
import Derived.Test.YtafpehjedkplpaaFAx31 -- home: impl_IsOrient.f impl_TurnWay.f impl_within.f spec_l1In.f spec_orDir.f spec_orGood.f spec_orLeast.f
namespace Go.Proofs.Ytafpehjedkplpaa.MFnExactLeastTurns
open Go.RowKit Go.Proofs.Ytafpehjedkplpaa.FA Go.Proofs.YtafpehjedkplpaaW.PrintWords Go.Proofs.YtafpehjedkplpaaW.PrintLast Go.Proofs.YtafpehjedkplpaaW.PrintMore
set_option linter.unusedVariables false

def L6 : List Int := [0, 1, 2, 3, 4, 5]
theorem six {a : Int} (h0 : 0 ≤ a) (h5 : a ≤ 5) : a ∈ L6 := by
  have : a = 0 ∨ a = 1 ∨ a = 2 ∨ a = 3 ∨ a = 4 ∨ a = 5 := by omega
  rcases this with rfl | rfl | rfl | rfl | rfl | rfl <;> decide
theorem in_some (a b c : Int) : spec_l1In.f a b c = some (decide (b ≤ a ∧ a ≤ c)) := by
  unfold spec_l1In.f
  by_cases h : b ≤ a <;> simp [h]
theorem within_some (a b c : Int) : impl_within.f a b c = some (decide (b ≤ a ∧ a ≤ c)) := by
  unfold impl_within.f
  by_cases h : b ≤ a <;> simp [h]
theorem orDir_some (a : Int) : spec_orDir.f a = some (decide (0 ≤ a ∧ a ≤ 5)) := by
  unfold spec_orDir.f; rw [in_some]; rfl
/-- Is this an orientation? -/
def good (a b : Int) : Bool := decide (0 ≤ a ∧ a ≤ 5) && (decide (0 ≤ b ∧ b ≤ 5) && decide (a / 2 ≠ b / 2))
theorem good_fin : ∀ a ∈ L6, ∀ b ∈ L6, spec_orGood.f a b = some (good a b) ∧ impl_IsOrient.f a b = some (good a b) := by decide +kernel
theorem good_spec (a b : Int) : spec_orGood.f a b = some (good a b) := by
  by_cases ha : 0 ≤ a ∧ a ≤ 5
  · by_cases hb : 0 ≤ b ∧ b ≤ 5
    · exact (good_fin a (six ha.1 ha.2) b (six hb.1 hb.2)).1
    · simp [spec_orGood.f, good, orDir_some, ha, hb]
  · simp [spec_orGood.f, good, orDir_some, ha]
theorem good_impl (a b : Int) : impl_IsOrient.f a b = some (good a b) := by
  by_cases ha : 0 ≤ a ∧ a ≤ 5
  · by_cases hb : 0 ≤ b ∧ b ≤ 5
    · exact (good_fin a (six ha.1 ha.2) b (six hb.1 hb.2)).2
    · simp [impl_IsOrient.f, good, within_some, ha, hb]
  · simp [impl_IsOrient.f, good, within_some, ha]
theorem good_in {a b : Int} (h : good a b = true) : a ∈ L6 ∧ b ∈ L6 := by
  unfold good at h
  simp only [Bool.and_eq_true, decide_eq_true_eq] at h
  exact ⟨six h.1.1 h.1.2, six h.2.1.1 h.2.1.2⟩
/-- The least turns from one orientation to another: both find the same. -/
def leastOk (a b c d : Int) : Bool := match spec_orLeast.f 60 a b c d with | some l => decide (l.length ≤ 3) && decide (impl_TurnWay.f 62 a b c d = some (l, true)) | none => false
theorem least_fin : ∀ a ∈ L6, ∀ b ∈ L6, good a b = true → ∀ c ∈ L6, ∀ d ∈ L6, good c d = true → leastOk a b c d = true := by decide +kernel
theorem least_same {a b c d : Int} (h : good a b = true) (h2 : good c d = true) : ∃ l : List Int, l.length ≤ 3 ∧ (∀ k, 60 ≤ k → spec_orLeast.f k a b c d = some l) ∧ ∀ k, 62 ≤ k → impl_TurnWay.f k a b c d = some (l, true) := by
  have hf := least_fin a (good_in h).1 b (good_in h).2 h c (good_in h2).1 d (good_in h2).2 h2
  unfold leastOk at hf
  cases hs : spec_orLeast.f 60 a b c d with
  | none => rw [hs] at hf; cases hf
  | some l =>
    rw [hs] at hf
    simp only [Bool.and_eq_true, decide_eq_true_eq] at hf
    exact ⟨l, hf.1, fun k hk => at_rounds (g := fun k => spec_orLeast.f k a b c d) (fun k => spec_orLeast.mono _ _ _ _ k) hk hs, fun k hk => at_rounds (g := fun k => impl_TurnWay.f k a b c d) (fun k => impl_TurnWay.mono _ _ _ _ k) hk hf.2⟩
end Go.Proofs.Ytafpehjedkplpaa.MFnExactLeastTurns
