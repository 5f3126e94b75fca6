/- The plain law behind FnExactLeastTurns: what the printed functions answer is true, for every input. -/
import Derived.Test.YtafpehjedkplpaaFAx32 -- home: laws_FnExactLeastTurns.f
import Derived.Test.YtafpehjedkplpaaMFnExactLeastTurns
namespace Go.Proofs.Ytafpehjedkplpaa.Pure
open Go.RowKit Go.Proofs.Ytafpehjedkplpaa.MFnExactLeastTurns Go.Proofs.Ytafpehjedkplpaa.FA Go.Proofs.YtafpehjedkplpaaW.PrintWords Go.Proofs.YtafpehjedkplpaaW.PrintLast Go.Proofs.YtafpehjedkplpaaW.PrintMore
set_option linter.unusedVariables false

theorem FnExactLeastTurns (a0_0 : Int) (a0_1 : Int) (a1_0 : Int) (a1_1 : Int) (w0_0 : (Lit.int .i64 a0_0).wf = true) (w0_1 : (Lit.int .i64 a0_1).wf = true) (w1_0 : (Lit.int .i64 a1_0).wf = true) (w1_1 : (Lit.int .i64 a1_1).wf = true) : ∃ k, laws_FnExactLeastTurns.f k a0_0 a0_1 a1_0 a1_1 = some true := by
  refine ⟨100, ?_⟩
  unfold laws_FnExactLeastTurns.f laws_toOrient.f spec_LeastTurns.f impl_LeastTurns.f
  simp only [Option.bind_some]
  by_cases hc : good a0_0 a0_1 = true ∧ good a1_0 a1_1 = true
  · obtain ⟨l, -, h1, h2⟩ := least_same hc.1 hc.2
    rw [good_spec, good_spec, hc.1, hc.2]
    simp only [Option.bind_some, if_true]
    rw [h1 100 (by omega), h2 100 (by omega)]
    simp only [Option.bind_some, if_true, bne_self_eq_false, Bool.false_eq_true, if_false]
  · unfold impl_TurnWay.f
    rw [good_spec, good_spec, good_impl, good_impl]
    simp only [Option.bind_some]
    cases hg : good a0_0 a0_1
    · rfl
    cases hh : good a1_0 a1_1
    · rfl
    exact absurd ⟨hg, hh⟩ hc

end Go.Proofs.Ytafpehjedkplpaa.Pure
