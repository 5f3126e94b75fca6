/- The plain law behind FnExactIsOrient: what the printed functions answer is true, for every input. -/
import Derived.Test.YtafpehjedkplpaaFAx3 -- home: laws_FnExactIsOrient.f
import Derived.Test.YtafpehjedkplpaaMA
namespace Go.Proofs.Ytafpehjedkplpaa.Pure
open Go.RowKit Go.Proofs.Ytafpehjedkplpaa.MA Go.Proofs.Ytafpehjedkplpaa.FA Go.Proofs.YtafpehjedkplpaaW.PrintWords Go.Proofs.YtafpehjedkplpaaW.PrintLast Go.Proofs.YtafpehjedkplpaaW.PrintMore
set_option linter.unusedVariables false

theorem FnExactIsOrient (a0_0 : Int) (a0_1 : Int) (w0_0 : (Lit.int .i64 a0_0).wf = true) (w0_1 : (Lit.int .i64 a0_1).wf = true) : laws_FnExactIsOrient.f a0_0 a0_1 = some true := by
  unfold laws_FnExactIsOrient.f spec_IsOrient.f
  simp [toOrient_eq, good_spec, good_impl]

end Go.Proofs.Ytafpehjedkplpaa.Pure
