/- The plain law behind FnExactIsPlace: what the printed functions answer is true, for every input. -/
import Derived.Test.YtmjejlifohghjaaFAx2 -- home: laws_FnExactIsPlace.f
import Derived.Test.YtmjejlifohghjaaMA
namespace Go.Proofs.Ytmjejlifohghjaa.Pure
open Go.RowKit Go.Proofs.Ytmjejlifohghjaa.MA Go.Proofs.Ytmjejlifohghjaa.FA Go.Proofs.YtmjejlifohghjaaW.PrintWords Go.Proofs.YtmjejlifohghjaaW.PrintLast
set_option linter.unusedVariables false

theorem FnExactIsPlace (a0_0 : Int) (a0_1 : Int) (a0_2 : Bool) (w0_0 : (Lit.int .i64 a0_0).wf = true) (w0_1 : (Lit.int .i64 a0_1).wf = true) : laws_FnExactIsPlace.f a0_0 a0_1 a0_2 = some true := by
  unfold laws_FnExactIsPlace.f spec_IsPlace.f
  simp [toPlace_eq, good_spec, good_impl]

end Go.Proofs.Ytmjejlifohghjaa.Pure
