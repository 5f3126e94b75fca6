/- The plain law behind FnExactThirdDir: what the printed functions answer is true, for every input. -/
import Derived.Test.YtafpehjedkplpaaFAx22 -- home: laws_FnExactThirdDir.f
import Derived.Test.YtafpehjedkplpaaMFnExactThirdDir
namespace Go.Proofs.Ytafpehjedkplpaa.Pure
open Go.RowKit Go.Proofs.Ytafpehjedkplpaa.MFnExactThirdDir Go.Proofs.Ytafpehjedkplpaa.FA Go.Proofs.YtafpehjedkplpaaW.PrintWords Go.Proofs.YtafpehjedkplpaaW.PrintLast Go.Proofs.YtafpehjedkplpaaW.PrintMore
set_option linter.unusedVariables false

theorem FnExactThirdDir (a0_0 : Int) (a0_1 : Int) (w0_0 : (Lit.int .i64 a0_0).wf = true) (w0_1 : (Lit.int .i64 a0_1).wf = true) : ∃ k, laws_FnExactThirdDir.f k a0_0 a0_1 = some true := by
  cases hg : good a0_0 a0_1
  · refine ⟨30, ?_⟩
    unfold laws_FnExactThirdDir.f laws_toOrient.f spec_ThirdDir.f impl_ThirdDir.f
    simp only [Option.bind_some]
    rw [good_spec, good_impl, hg]
    rfl
  · exact ⟨30, third_fin a0_0 (good_in hg).1 a0_1 (good_in hg).2⟩

end Go.Proofs.Ytafpehjedkplpaa.Pure
