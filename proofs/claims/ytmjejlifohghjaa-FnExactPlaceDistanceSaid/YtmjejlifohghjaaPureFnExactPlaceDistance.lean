/- The plain law behind FnExactPlaceDistance: what the printed functions answer is true, for every input. -/
import Derived.Test.YtmjejlifohghjaaFAx6 -- home: laws_FnExactPlaceDistance.f
import Derived.Test.YtmjejlifohghjaaMA
namespace Go.Proofs.Ytmjejlifohghjaa.Pure
open Go.RowKit Go.Proofs.Ytmjejlifohghjaa.MA Go.Proofs.Ytmjejlifohghjaa.FA Go.Proofs.YtmjejlifohghjaaW.PrintWords Go.Proofs.YtmjejlifohghjaaW.PrintLast
set_option linter.unusedVariables false

theorem FnExactPlaceDistance (a0_0 : Int) (a0_1 : Int) (a0_2 : Bool) (a1_0 : Int) (a1_1 : Int) (a1_2 : Bool) (w0_0 : (Lit.int .i64 a0_0).wf = true) (w0_1 : (Lit.int .i64 a0_1).wf = true) (w1_0 : (Lit.int .i64 a1_0).wf = true) (w1_1 : (Lit.int .i64 a1_1).wf = true) : laws_FnExactPlaceDistance.f a0_0 a0_1 a0_2 a1_0 a1_1 a1_2 = some true := by
  unfold laws_FnExactPlaceDistance.f spec_PlaceDistance.f impl_PlaceDistance.f
  simp only [toPlace_eq, Option.bind_some, good_spec, good_impl]
  cases h : good a0_0 a0_1 a0_2
  · simp
  · cases h2 : good a1_0 a1_1 a1_2
    · simp
    · simp [far_spec h h2, far_impl h h2]

end Go.Proofs.Ytmjejlifohghjaa.Pure
