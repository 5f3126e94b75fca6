/- The words that the plain law behind FnExactPlaceOfCode needs. -/
import Derived.Test.YtmjejlifohghjaaFAx2
import Derived.Test.YtmjejlifohghjaaFAx3
import Derived.Test.YtmjejlifohghjaaFAx7
import Derived.Test.YtmjejlifohghjaaFAx8 -- home: impl_within.f laws_FnExactPlaceOfCode.f spec_PlaceOfCode.f spec_plAll.f spec_plCode.f
namespace Go.Proofs.Ytmjejlifohghjaa.MFnExactPlaceOfCode
open Go.RowKit Go.Proofs.Ytmjejlifohghjaa.FA Go.Proofs.YtmjejlifohghjaaW.PrintWords Go.Proofs.YtmjejlifohghjaaW.PrintLast Go.Proofs.YtmjejlifohghjaaW.PrintMore
set_option linter.unusedVariables false
theorem within_some (a b c : Int) : impl_within.f a b c = some (decide (b ≤ a ∧ a ≤ c)) := by
  unfold impl_within.f
  by_cases h : b ≤ a <;> simp [h]
/-- All the places. -/
def places : List S25 := (spec_plAll.f 200).getD []
theorem plAll_200 : spec_plAll.f 200 = some places := by
  have h : (spec_plAll.f 200).isSome = true := by decide +kernel
  unfold places
  cases hh : spec_plAll.f 200 with
  | none => rw [hh] at h; cases h
  | some l => rfl
theorem plAll_eq (k : Nat) (hk : 200 ≤ k) : spec_plAll.f k = some places := at_rounds (g := fun k => spec_plAll.f k) (fun k => spec_plAll.mono k) hk plAll_200
theorem places_length : places.length = 57 := by decide +kernel
theorem places_code : (places.all fun q => (spec_plCode.f q.f0 q.f1 q.f2).any fun c => decide (0 ≤ c) && decide (c ≤ 59)) = true := by decide +kernel
theorem rdP (pre : List S25) (x : S25) (rest : List S25) : rd_T25 (pre ++ x :: rest) (pre.length : Int) = x := by
  unfold rd_T25; simp
theorem wz {x : Int} (h0 : -4611686018427387904 ≤ x) (h1 : x ≤ 4611686018427387904) : wrap64 x = x := by unfold wrap64; omega
theorem stepP (pre : List S25) (v : S25) (h : pre.length ≤ 4611686018427387903) : wrap64 ((pre.length : Int) + 1) = ((pre ++ [v]).length : Int) := by
  rw [wz (by omega) (by omega)]; simp
/-- No place has a code outside. -/
theorem ofCode_none (a : Int) (ha : ¬ (0 ≤ a ∧ a ≤ 59)) (L : List S25) (hL : L.length ≤ 1000) : ∀ (rest pre : List S25) (k : Nat), pre ++ rest = L → (rest.all fun q => (spec_plCode.f q.f0 q.f1 q.f2).any fun c => decide (0 ≤ c) && decide (c ≤ 59)) = true → rest.length < k →
    spec_PlaceOfCode.l0 k a L (L.length : Int) (pre.length : Int) = some (0, 0, false, false) := by
  intro rest
  induction rest with
  | nil =>
    intro pre k h hc hk
    obtain ⟨k, rfl⟩ : ∃ q, k = q + 1 := ⟨k - 1, by omega⟩
    simp only [spec_PlaceOfCode.l0]
    rw [if_neg (by rw [← h]; simp)]
  | cons x xs ih =>
    intro pre k h hc hk
    obtain ⟨k, rfl⟩ : ∃ q, k = q + 1 := ⟨k - 1, by omega⟩
    rw [List.all_cons, Bool.and_eq_true] at hc
    have hl : pre.length < L.length := by rw [← h]; simp
    rw [List.length_cons] at hk
    simp only [spec_PlaceOfCode.l0]
    rw [if_pos (by omega), if_pos (by omega), if_pos (by omega)]
    have hr : rd_T25 L (pre.length : Int) = x := by rw [← h]; exact rdP pre x xs
    rw [hr]
    have h1 := hc.1
    cases hx : spec_plCode.f x.f0 x.f1 x.f2 with
    | none => rw [hx] at h1; cases h1
    | some c =>
      rw [hx] at h1
      simp only [Option.any_some, Bool.and_eq_true, decide_eq_true_eq] at h1
      simp only [Option.bind_some]
      rw [if_neg (by omega), stepP pre x (by omega)]
      exact ih (pre ++ [x]) k (by rw [← h]; simp) hc.2 (by omega)
theorem code_fin : ((List.range 60).all fun n => laws_FnExactPlaceOfCode.f 300 (n : Int) == some true) = true := by decide +kernel
end Go.Proofs.Ytmjejlifohghjaa.MFnExactPlaceOfCode
