/- The words that the plain law behind FnExactIsConstraint needs. -/
import Derived.Test.YtmjejlifohghjaaFAx2 -- home: spec_l1In.f
namespace Go.Proofs.Ytmjejlifohghjaa.MFnExactIsConstraint
open Go.RowKit Go.Proofs.Ytmjejlifohghjaa.FA Go.Proofs.YtmjejlifohghjaaW.PrintWords Go.Proofs.YtmjejlifohghjaaW.PrintLast Go.Proofs.YtmjejlifohghjaaW.PrintMore
set_option linter.unusedVariables false
theorem in_some (a b c : Int) : spec_l1In.f a b c = some (decide (b ≤ a ∧ a ≤ c)) := by
  unfold spec_l1In.f
  by_cases h : b ≤ a <;> simp [h]
end Go.Proofs.Ytmjejlifohghjaa.MFnExactIsConstraint
