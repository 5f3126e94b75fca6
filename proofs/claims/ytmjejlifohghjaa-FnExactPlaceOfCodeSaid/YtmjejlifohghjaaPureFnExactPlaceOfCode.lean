/- The plain law behind FnExactPlaceOfCode: what the printed functions answer is true, for every input. -/
import Derived.Test.YtmjejlifohghjaaFAx8 -- home: laws_FnExactPlaceOfCode.f
import Derived.Test.YtmjejlifohghjaaMFnExactPlaceOfCode
namespace Go.Proofs.Ytmjejlifohghjaa.Pure
open Go.RowKit Go.Proofs.Ytmjejlifohghjaa.MFnExactPlaceOfCode Go.Proofs.Ytmjejlifohghjaa.FA Go.Proofs.YtmjejlifohghjaaW.PrintWords Go.Proofs.YtmjejlifohghjaaW.PrintLast Go.Proofs.YtmjejlifohghjaaW.PrintMore
set_option linter.unusedVariables false

theorem FnExactPlaceOfCode : laws_FnExactPlaceOfCode.Pure := by
  intro a0 h0
  by_cases ha : 0 ≤ a0 ∧ a0 ≤ 59
  · have h := List.all_eq_true.1 code_fin a0.toNat (List.mem_range.2 (by omega))
    rw [Int.toNat_of_nonneg ha.1] at h
    exact ⟨300, by simpa using h⟩
  · refine ⟨300, ?_⟩
    have h := ofCode_none a0 ha places (by rw [places_length]; omega) places [] 300 (by simp) places_code (by rw [places_length]; omega)
    unfold laws_FnExactPlaceOfCode.f spec_PlaceOfCode.f impl_PlaceOfCode.f
    rw [plAll_eq 300 (by omega), within_some, decide_eq_false ha]
    simp only [Option.bind_some, Bool.false_eq_true, if_false]
    rw [show spec_PlaceOfCode.l0 300 a0 places (places.length : Int) 0 = some (0, 0, false, false) from h]
    rfl

end Go.Proofs.Ytmjejlifohghjaa.Pure
