/- The plain law behind FnExactIsGloss: what the printed functions answer is true, for every input. -/
import Derived.Test.YtkhaofalaikegaaFAx43 -- home: laws_FnExactIsGloss.f
import Derived.Test.YtkhaofalaikegaaMW
import Derived.Test.YtkhaofalaikegaaMG
namespace Go.Proofs.Ytkhaofalaikegaa.Pure
open Go.RowKit Go.Proofs.Ytkhaofalaikegaa.MS Go.Proofs.Ytkhaofalaikegaa.MB Go.Proofs.Ytkhaofalaikegaa.FA Go.Proofs.YtkhaofalaikegaaW.PrintWords Go.Proofs.YtkhaofalaikegaaW.PrintLast Go.Proofs.YtkhaofalaikegaaW.PrintMore
set_option linter.unusedVariables false

theorem FnExactIsGloss : laws_FnExactIsGloss.Pure := by
  intro a0 h0
  refine ⟨a0.size + 100, ?_⟩
  unfold laws_FnExactIsGloss.f spec_IsGloss.f
  rw [gloss_spec a0 _ (by omega) (by omega), gloss_impl a0 _ (by omega) (by omega)]
  by_cases hb : (a0.size : Int) > 1048576
  · rw [if_pos hb]
  rw [if_neg hb]
  simp only [Option.bind_some, bne_self_eq_false, Bool.false_eq_true, if_false]

end Go.Proofs.Ytkhaofalaikegaa.Pure
