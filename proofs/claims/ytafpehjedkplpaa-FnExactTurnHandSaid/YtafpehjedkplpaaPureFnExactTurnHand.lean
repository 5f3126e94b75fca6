/- The plain law behind FnExactTurnHand: what the printed functions answer is true, for every input. -/
import Derived.Test.YtafpehjedkplpaaFAx27 -- home: laws_FnExactTurnHand.f
import Derived.Test.YtafpehjedkplpaaMFnExactTurnHand
namespace Go.Proofs.Ytafpehjedkplpaa.Pure
open Go.RowKit Go.Proofs.Ytafpehjedkplpaa.MFnExactTurnHand Go.Proofs.Ytafpehjedkplpaa.FA Go.Proofs.YtafpehjedkplpaaW.PrintWords Go.Proofs.YtafpehjedkplpaaW.PrintLast Go.Proofs.YtafpehjedkplpaaW.PrintMore
set_option linter.unusedVariables false

theorem FnExactTurnHand (a0_0 : Int) (a0_1 : Int) (a1 : Int) (a2 : Int) (w0_0 : (Lit.int .i64 a0_0).wf = true) (w0_1 : (Lit.int .i64 a0_1).wf = true) (w1 : (Lit.int .i64 a1).wf = true) (w2 : (Lit.int .i64 a2).wf = true) : ∃ k, laws_FnExactTurnHand.f k a0_0 a0_1 a1 a2 = some true := by
  by_cases hc : good a0_0 a0_1 = true ∧ (0 ≤ a1 ∧ a1 ≤ 5) ∧ (-3 ≤ a2 ∧ a2 ≤ 3)
  · obtain ⟨hg, h1, h2⟩ := hc
    exact ⟨40, turn_fin a0_0 (good_in hg).1 a0_1 (good_in hg).2 hg a1 (six h1.1 h1.2) a2 (seven h2)⟩
  · refine ⟨40, ?_⟩
    unfold laws_FnExactTurnHand.f laws_toOrient.f spec_TurnHand.f impl_TurnHand.f
    simp only [Option.bind_some]
    rw [good_spec, good_impl, orDir_some, in_some, within_some, within_some]
    simp only [Option.bind_some]
    cases hg : good a0_0 a0_1
    · rfl
    cases h1 : decide (0 ≤ a1 ∧ a1 ≤ 5)
    · rfl
    cases h2 : decide (-3 ≤ a2 ∧ a2 ≤ 3)
    · rfl
    exact absurd ⟨hg, of_decide_eq_true h1, of_decide_eq_true h2⟩ hc

end Go.Proofs.Ytafpehjedkplpaa.Pure
