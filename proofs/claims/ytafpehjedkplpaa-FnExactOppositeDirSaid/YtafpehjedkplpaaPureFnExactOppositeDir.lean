/- The plain law behind FnExactOppositeDir: what the printed functions answer is true, for every input. -/
import Derived.Test.YtafpehjedkplpaaFAx2 -- home: laws_FnExactOppositeDir.f
import Derived.Test.YtafpehjedkplpaaMA
namespace Go.Proofs.Ytafpehjedkplpaa.Pure
open Go.RowKit Go.Proofs.Ytafpehjedkplpaa.MA Go.Proofs.Ytafpehjedkplpaa.FA Go.Proofs.YtafpehjedkplpaaW.PrintWords Go.Proofs.YtafpehjedkplpaaW.PrintLast Go.Proofs.YtafpehjedkplpaaW.PrintMore
set_option linter.unusedVariables false

theorem FnExactOppositeDir : laws_FnExactOppositeDir.Pure := by
  intro a0 h0
  unfold laws_FnExactOppositeDir.f spec_OppositeDir.f impl_OppositeDir.f
  rw [orDir_some, within_some]
  by_cases h : 0 ≤ a0 ∧ a0 ≤ 5
  · have hf : ∀ a ∈ L6, ∃ r, spec_orOpposite.f a = some r ∧ Go.bits .xor .i64 a 1 = r := by
      intro a ha
      have hg : ∀ a ∈ L6, spec_orOpposite.f a = some (Go.bits .xor .i64 a 1) := by decide +kernel
      exact ⟨_, hg a ha, rfl⟩
    obtain ⟨r, h1, h2⟩ := hf a0 (six h.1 h.2)
    simp [h, h1, h2]
  · simp [h]

end Go.Proofs.Ytafpehjedkplpaa.Pure
