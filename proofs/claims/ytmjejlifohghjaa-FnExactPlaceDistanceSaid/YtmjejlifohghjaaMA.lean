/- Plain laws of places: what the printed functions of places answer. -/
import Derived.Test.YtmjejlifohghjaaFAx4
import Derived.Test.YtmjejlifohghjaaFAx5 -- home: spec_plFar.f impl_Place_distance.f laws_eqPlace.f
namespace Go.Proofs.Ytmjejlifohghjaa.MA
open Go.RowKit Go.Proofs.Ytmjejlifohghjaa.FA Go.Proofs.YtmjejlifohghjaaW.PrintWords Go.Proofs.YtmjejlifohghjaaW.PrintLast Go.Proofs.YtmjejlifohghjaaW.PrintMore

theorem wr {x : Int} (h0 : -1000000 ≤ x) (h1 : x ≤ 1000000) : wrap64 x = x := by unfold wrap64; omega
theorem in_some (a b c : Int) : spec_l1In.f a b c = some (decide (b ≤ a ∧ a ≤ c)) := by
  unfold spec_l1In.f
  by_cases h : b ≤ a <;> simp [h]
theorem within_some (a b c : Int) : impl_within.f a b c = some (decide (b ≤ a ∧ a ≤ c)) := by
  unfold impl_within.f
  by_cases h : b ≤ a <;> simp [h]
/-- Is this a place? -/
def good (a b : Int) (c : Bool) : Bool := decide (0 ≤ a ∧ a ≤ 9) && (decide (-1 ≤ b ∧ b ≤ 1) && (decide (0 < a) || !c))
theorem good_iff {a b : Int} {c : Bool} : good a b c = true ↔ (0 ≤ a ∧ a ≤ 9) ∧ (-1 ≤ b ∧ b ≤ 1) ∧ (0 < a ∨ c = false) := by
  unfold good; simp
theorem good_spec (a b : Int) (c : Bool) : spec_plGood.f a b c = some (good a b c) := by
  unfold spec_plGood.f good
  simp only [in_some, Option.bind_some]
  by_cases h1 : 0 ≤ a ∧ a ≤ 9 <;> by_cases h2 : -1 ≤ b ∧ b ≤ 1 <;> by_cases h3 : 0 < a <;> simp [h1, h2, h3]
theorem good_impl (a b : Int) (c : Bool) : impl_IsPlace.f a b c = some (good a b c) := by
  unfold impl_IsPlace.f good
  simp only [within_some, Option.bind_some]
  by_cases h1 : 0 ≤ a ∧ a ≤ 9
  · by_cases h2 : -1 ≤ b ∧ b ≤ 1
    · cases c
      · simp [h1, h2]
      · by_cases h3 : a = 0
        · simp [h3]
        · have : 0 < a := by omega
          simp [h1, h2, h3, this]
    · simp [h1, h2]
  · simp [h1]
theorem code_eq (a b : Int) (c : Bool) : impl_Place_code.f a b c = spec_plCode.f a b c := rfl
theorem toPlace_eq (a b : Int) (c : Bool) : laws_toPlace.f a b c = some (a, b, c) := rfl
theorem eqPlace_self (a b : Int) (c : Bool) : laws_eqPlace.f a b c a b c = some true := by
  unfold laws_eqPlace.f; simp
theorem most_some (a b : Int) : spec_l1Most.f a b = some (mx a b) := by
  unfold spec_l1Most.f mx
  by_cases h : a > b
  · rw [if_pos h, if_neg (by omega)]
  · rw [if_neg h]
    by_cases h2 : a < b
    · rw [if_pos h2]
    · rw [if_neg h2]; congr 1; omega
/-- The distance of two numbers. -/
def dist (a b : Int) : Int := mx (a - b) (b - a)
theorem dist_nonneg (a b : Int) : 0 ≤ dist a b := by unfold dist mx; split <;> omega
theorem dist_impl {a b : Int} (ha : -1000 ≤ a) (ha2 : a ≤ 1000) (hb : -1000 ≤ b) (hb2 : b ≤ 1000) : impl_distance.f a b = some (dist a b) := by
  unfold impl_distance.f dist
  rw [wr (by omega) (by omega), wr (by omega) (by omega)]
theorem dist_spec {a b : Int} (ha : -1000 ≤ a) (ha2 : a ≤ 1000) (hb : -1000 ≤ b) (hb2 : b ≤ 1000) : spec_l1Abs.f (wrap64 (a - b)) = some (dist a b) := by
  unfold spec_l1Abs.f dist
  rw [wr (x := a - b) (by omega) (by omega), wr (by omega) (by omega), most_some]
  simp only [Option.bind_some]
  congr 2; omega
/-- The distance of two places. -/
def far (a0 a1 : Int) (a2 : Bool) (b0 b1 : Int) (b2 : Bool) : Int := dist a1 b1 + (if a2 = b2 then 0 else 1) + (if (a0 = 0) = (b0 = 0) then dist a0 b0 else 4)
theorem dist_le {a b : Int} (ha : -1000 ≤ a) (ha2 : a ≤ 1000) (hb : -1000 ≤ b) (hb2 : b ≤ 1000) : dist a b ≤ 2000 := by unfold dist mx; split <;> omega
theorem far_impl {a0 a1 : Int} {a2 : Bool} {b0 b1 : Int} {b2 : Bool} (ha : good a0 a1 a2 = true) (hb : good b0 b1 b2 = true) : impl_Place_distance.f a0 a1 a2 b0 b1 b2 = some (far a0 a1 a2 b0 b1 b2) := by
  obtain ⟨⟨h1, h2⟩, ⟨h3, h4⟩, _⟩ := good_iff.1 ha
  obtain ⟨⟨h5, h6⟩, ⟨h7, h8⟩, _⟩ := good_iff.1 hb
  unfold impl_Place_distance.f far
  rw [dist_impl (by omega) (by omega) (by omega) (by omega), dist_impl (by omega) (by omega) (by omega) (by omega)]
  have d0 := dist_nonneg a0 b0
  have d1 := dist_nonneg a1 b1
  have e0 := dist_le (a := a0) (b := b0) (by omega) (by omega) (by omega) (by omega)
  have e1 := dist_le (a := a1) (b := b1) (by omega) (by omega) (by omega) (by omega)
  simp only [Option.bind_some]
  generalize dist a1 b1 = x1 at *
  generalize dist a0 b0 = x0 at *
  rw [wr (x := x1 + 1) (by omega) (by omega), wr (x := x1 + 4) (by omega) (by omega), wr (x := x1 + 1 + 4) (by omega) (by omega), wr (x := x1 + 1 + x0) (by omega) (by omega), wr (x := x1 + x0) (by omega) (by omega)]
  rw [show (a0 == 0) = decide (a0 = 0) from rfl, show (b0 == 0) = decide (b0 = 0) from rfl]
  by_cases z0 : a0 = 0 <;> by_cases z1 : b0 = 0 <;> cases a2 <;> cases b2 <;> simp [z0, z1]
theorem far_spec {a0 a1 : Int} {a2 : Bool} {b0 b1 : Int} {b2 : Bool} (ha : good a0 a1 a2 = true) (hb : good b0 b1 b2 = true) : spec_plFar.f a0 a1 a2 b0 b1 b2 = some (far a0 a1 a2 b0 b1 b2) := by
  obtain ⟨⟨h1, h2⟩, ⟨h3, h4⟩, _⟩ := good_iff.1 ha
  obtain ⟨⟨h5, h6⟩, ⟨h7, h8⟩, _⟩ := good_iff.1 hb
  rw [← far_impl ha hb]
  unfold spec_plFar.f impl_Place_distance.f
  rw [dist_spec (by omega) (by omega) (by omega) (by omega), dist_spec (by omega) (by omega) (by omega) (by omega), dist_impl (by omega) (by omega) (by omega) (by omega), dist_impl (by omega) (by omega) (by omega) (by omega)]
end Go.Proofs.Ytmjejlifohghjaa.MA
