/- The plain law behind FnExactPlaceCode: what the printed functions answer is true, for every input. -/
import Derived.Test.YtmjejlifohghjaaFAx3 -- home: laws_FnExactPlaceCode.f
import Derived.Test.YtmjejlifohghjaaMA
namespace Go.Proofs.Ytmjejlifohghjaa.Pure
open Go.RowKit Go.Proofs.Ytmjejlifohghjaa.MA Go.Proofs.Ytmjejlifohghjaa.FA Go.Proofs.YtmjejlifohghjaaW.PrintWords Go.Proofs.YtmjejlifohghjaaW.PrintLast
set_option linter.unusedVariables false

theorem FnExactPlaceCode (a0_0 : Int) (a0_1 : Int) (a0_2 : Bool) (w0_0 : (Lit.int .i64 a0_0).wf = true) (w0_1 : (Lit.int .i64 a0_1).wf = true) : laws_FnExactPlaceCode.f a0_0 a0_1 a0_2 = some true := by
  unfold laws_FnExactPlaceCode.f spec_PlaceCode.f impl_PlaceCode.f
  simp only [toPlace_eq, Option.bind_some, good_spec, good_impl, code_eq]
  cases h : good a0_0 a0_1 a0_2
  · simp
  · obtain ⟨r, hr⟩ : ∃ r, spec_plCode.f a0_0 a0_1 a0_2 = some r := by unfold spec_plCode.f; split <;> exact ⟨_, rfl⟩
    simp [hr]

end Go.Proofs.Ytmjejlifohghjaa.Pure
