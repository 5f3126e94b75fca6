/- The plain law behind FnExactAllOrients: what the printed functions answer is true, for every input. -/
import Derived.Test.YtafpehjedkplpaaFAx18 -- home: laws_FnExactAllOrients.f
import Derived.Test.YtafpehjedkplpaaMA
namespace Go.Proofs.Ytafpehjedkplpaa.Pure
open Go.RowKit Go.Proofs.Ytafpehjedkplpaa.MA Go.Proofs.Ytafpehjedkplpaa.FA Go.Proofs.YtafpehjedkplpaaW.PrintWords Go.Proofs.YtafpehjedkplpaaW.PrintLast Go.Proofs.YtafpehjedkplpaaW.PrintMore
set_option linter.unusedVariables false

theorem FnExactAllOrients : laws_FnExactAllOrients.Pure := by
  exact ⟨200, by decide +kernel⟩

end Go.Proofs.Ytafpehjedkplpaa.Pure
