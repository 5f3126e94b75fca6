/- The plain law behind FnExactIsConstraint: what the printed functions answer is true, for every input. -/
import Derived.Test.YtmjejlifohghjaaFAx29 -- home: laws_FnExactIsConstraint.f
import Derived.Test.YtmjejlifohghjaaMFnExactIsConstraint
namespace Go.Proofs.Ytmjejlifohghjaa.Pure
open Go.RowKit Go.Proofs.Ytmjejlifohghjaa.MFnExactIsConstraint Go.Proofs.Ytmjejlifohghjaa.FA Go.Proofs.YtmjejlifohghjaaW.PrintWords Go.Proofs.YtmjejlifohghjaaW.PrintLast Go.Proofs.YtmjejlifohghjaaW.PrintMore
set_option linter.unusedVariables false

theorem FnExactIsConstraint (a0_0 : Int) (a0_1 : Int) (w0_0 : (Lit.int .i64 a0_0).wf = true) (w0_1 : (Lit.int .i64 a0_1).wf = true) : laws_FnExactIsConstraint.f a0_0 a0_1 = some true := by
  unfold laws_FnExactIsConstraint.f laws_toConstraint.f spec_IsConstraint.f spec_ruGood.f impl_IsConstraint.f
  simp only [in_some, Option.bind_some]
  by_cases h : 0 ≤ a0_0 ∧ a0_0 ≤ 4
  · have hc : a0_0 = 0 ∨ a0_0 = 1 ∨ a0_0 = 2 ∨ a0_0 = 3 ∨ a0_0 = 4 := by omega
    rcases hc with rfl | rfl | rfl | rfl | rfl <;> simp only [spec_ruMost.f, impl_IsConstraint.most] <;> simp [rd]
    all_goals (by_cases g : 0 ≤ a0_1 <;> simp [g] <;> split <;> simp [*])
  · simp [h]

end Go.Proofs.Ytmjejlifohghjaa.Pure
