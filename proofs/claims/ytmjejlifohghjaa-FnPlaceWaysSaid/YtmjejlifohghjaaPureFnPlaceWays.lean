/- The plain law behind FnPlaceWays: what the printed functions answer is true, for every input. -/
import Derived.Test.YtmjejlifohghjaaFCx210 -- home: laws_FnPlaceWays.f
import Derived.Test.YtmjejlifohghjaaFCx21
import Derived.Test.YtmjejlifohghjaaMFnPlaceWays
namespace Go.Proofs.Ytmjejlifohghjaa.Pure
open Go.RowKit Go.Proofs.Ytmjejlifohghjaa.MFnPlaceWays Go.Proofs.Ytmjejlifohghjaa.FC Go.Proofs.YtmjejlifohghjaaW.PrintWords Go.Proofs.YtmjejlifohghjaaW.PrintLast Go.Proofs.YtmjejlifohghjaaW.PrintMore
set_option linter.unusedVariables false

theorem FnPlaceWays : laws_FnPlaceWays.Pure := by
  intro l0 l1 _ _ h0 _ _ h1
  exact ⟨6000, all_true l0 l1 h0 h1⟩

end Go.Proofs.Ytmjejlifohghjaa.Pure
