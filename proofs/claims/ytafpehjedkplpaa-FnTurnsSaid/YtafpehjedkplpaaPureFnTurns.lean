/- The plain law behind FnTurns: what the printed functions answer is true, for every input. -/
import Derived.Test.YtafpehjedkplpaaFBx190 -- home: laws_FnTurns.f
import Derived.Test.YtafpehjedkplpaaFBx19
import Derived.Test.YtafpehjedkplpaaMFnTurns
namespace Go.Proofs.Ytafpehjedkplpaa.Pure
open Go.RowKit Go.Proofs.Ytafpehjedkplpaa.MFnTurns Go.Proofs.Ytafpehjedkplpaa.FB Go.Proofs.YtafpehjedkplpaaW.PrintWords Go.Proofs.YtafpehjedkplpaaW.PrintLast Go.Proofs.YtafpehjedkplpaaW.PrintMore
set_option linter.unusedVariables false

theorem FnTurns : laws_FnTurns.Pure := by
  intro l0 l1 _ _ h0 _ _ h1
  exact ⟨1000, all_true l0 l1 h0 h1⟩

end Go.Proofs.Ytafpehjedkplpaa.Pure
