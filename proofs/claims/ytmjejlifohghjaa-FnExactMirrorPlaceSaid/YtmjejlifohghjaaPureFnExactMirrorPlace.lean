/- The plain law behind FnExactMirrorPlace: what the printed functions answer is true, for every input. -/
import Derived.Test.YtmjejlifohghjaaFAx4 -- home: laws_FnExactMirrorPlace.f
import Derived.Test.YtmjejlifohghjaaMA
namespace Go.Proofs.Ytmjejlifohghjaa.Pure
open Go.RowKit Go.Proofs.Ytmjejlifohghjaa.MA Go.Proofs.Ytmjejlifohghjaa.FA Go.Proofs.YtmjejlifohghjaaW.PrintWords Go.Proofs.YtmjejlifohghjaaW.PrintLast
set_option linter.unusedVariables false

theorem FnExactMirrorPlace (a0_0 : Int) (a0_1 : Int) (a0_2 : Bool) (w0_0 : (Lit.int .i64 a0_0).wf = true) (w0_1 : (Lit.int .i64 a0_1).wf = true) : laws_FnExactMirrorPlace.f a0_0 a0_1 a0_2 = some true := by
  unfold laws_FnExactMirrorPlace.f spec_MirrorPlace.f impl_MirrorPlace.f
  simp only [toPlace_eq, Option.bind_some, good_spec, good_impl]
  cases h : good a0_0 a0_1 a0_2
  · simp [eqPlace_self]
  · simp [spec_plMirror.f, eqPlace_self]

end Go.Proofs.Ytmjejlifohghjaa.Pure
