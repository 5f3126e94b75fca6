/- The words that the plain law behind FnPlaceWays needs. -/
import Derived.Test.YtmjejlifohghjaaFCx2
import Derived.Test.YtmjejlifohghjaaFCx3
import Derived.Test.YtmjejlifohghjaaFCx4
import Derived.Test.YtmjejlifohghjaaFCx5
import Derived.Test.YtmjejlifohghjaaFCx6
import Derived.Test.YtmjejlifohghjaaFCx7
import Derived.Test.YtmjejlifohghjaaFCx8
import Derived.Test.YtmjejlifohghjaaFCx9
import Derived.Test.YtmjejlifohghjaaFCx10
import Derived.Test.YtmjejlifohghjaaFCx11
import Derived.Test.YtmjejlifohghjaaFCx12
import Derived.Test.YtmjejlifohghjaaFCx13
import Derived.Test.YtmjejlifohghjaaFCx14
import Derived.Test.YtmjejlifohghjaaFCx15
import Derived.Test.YtmjejlifohghjaaFCx16
import Derived.Test.YtmjejlifohghjaaFCx17
import Derived.Test.YtmjejlifohghjaaFCx18
import Derived.Test.YtmjejlifohghjaaFCx19
import Derived.Test.YtmjejlifohghjaaFCx20
import Derived.Test.YtmjejlifohghjaaFCx210 -- home: cmp_Compare_int.f cmp_isNaN_int.f impl_CommonPlace.f impl_IsPlace.f impl_PlaceDistance.f impl_PlaceOfCode.f impl_Place_code.f impl_Place_distance.f impl_PlacesWithin.f impl_WayOfPlaces.f impl_allOf_Place.f impl_distance.f impl_within.f laws_FnPlaceWays.f laws_qPlaces.f slices_Index_int_int.f spec_CommonPlace.f spec_DrawCommonPlace.f spec_DrawPlaceDistance.f spec_DrawPlacesWithin.f spec_DrawWayOfPlaces.f spec_PlaceCode.f spec_PlaceDistance.f spec_PlacesWithin.f spec_WayOfPlaces.f spec_l1Abs.f spec_l1Cur_among.f spec_l1Cur_anyPlace.f spec_l1Cur_next.f spec_l1Cur_one.f spec_l1Cur_pick.f spec_l1Cur_place.f spec_l1In.f spec_l1Most.f spec_l1Sign.f spec_plAll.f spec_plCode.f spec_plFar.f spec_plGood.f spec_plList.f
namespace Go.Proofs.Ytmjejlifohghjaa.MFnPlaceWays
open Go.RowKit Go.Proofs.Ytmjejlifohghjaa.FC Go.Proofs.YtmjejlifohghjaaW.PrintWords Go.Proofs.YtmjejlifohghjaaW.PrintLast Go.Proofs.YtmjejlifohghjaaW.PrintMore
set_option linter.unusedVariables false

theorem wr {x : Int} (h0 : -1000000 ≤ x) (h1 : x ≤ 1000000) : wrap64 x = x := by unfold wrap64; omega
theorem in_some (a b c : Int) : spec_l1In.f a b c = some (decide (b ≤ a ∧ a ≤ c)) := by
  unfold spec_l1In.f
  by_cases h : b ≤ a <;> simp [h]
theorem within_some (a b c : Int) : impl_within.f a b c = some (decide (b ≤ a ∧ a ≤ c)) := by
  unfold impl_within.f
  by_cases h : b ≤ a <;> simp [h]
/-- Is this a place? -/
def good (a b : Int) (c : Bool) : Bool := decide (0 ≤ a ∧ a ≤ 9) && (decide (-1 ≤ b ∧ b ≤ 1) && (decide (0 < a) || !c))
theorem good_iff {a b : Int} {c : Bool} : good a b c = true ↔ (0 ≤ a ∧ a ≤ 9) ∧ (-1 ≤ b ∧ b ≤ 1) ∧ (0 < a ∨ c = false) := by
  unfold good; simp
theorem good_spec (a b : Int) (c : Bool) : spec_plGood.f a b c = some (good a b c) := by
  unfold spec_plGood.f good
  simp only [in_some, Option.bind_some]
  by_cases h1 : 0 ≤ a ∧ a ≤ 9 <;> by_cases h2 : -1 ≤ b ∧ b ≤ 1 <;> by_cases h3 : 0 < a <;> simp [h1, h2, h3]
theorem good_impl (a b : Int) (c : Bool) : impl_IsPlace.f a b c = some (good a b c) := by
  unfold impl_IsPlace.f good
  simp only [within_some, Option.bind_some]
  by_cases h1 : 0 ≤ a ∧ a ≤ 9
  · by_cases h2 : -1 ≤ b ∧ b ≤ 1
    · cases c
      · simp [h1, h2]
      · by_cases h3 : a = 0
        · simp [h3]
        · have : 0 < a := by omega
          simp [h1, h2, h3, this]
    · simp [h1, h2]
  · simp [h1]
theorem most_some (a b : Int) : spec_l1Most.f a b = some (mx a b) := by
  unfold spec_l1Most.f mx
  by_cases h : a > b
  · rw [if_pos h, if_neg (by omega)]
  · rw [if_neg h]
    by_cases h2 : a < b
    · rw [if_pos h2]
    · rw [if_neg h2]; congr 1; omega
/-- The distance of two numbers. -/
def dist (a b : Int) : Int := mx (a - b) (b - a)
theorem dist_nonneg (a b : Int) : 0 ≤ dist a b := by unfold dist mx; split <;> omega
theorem dist_impl {a b : Int} (ha : -1000 ≤ a) (ha2 : a ≤ 1000) (hb : -1000 ≤ b) (hb2 : b ≤ 1000) : impl_distance.f a b = some (dist a b) := by
  unfold impl_distance.f dist
  rw [wr (by omega) (by omega), wr (by omega) (by omega)]
theorem dist_spec {a b : Int} (ha : -1000 ≤ a) (ha2 : a ≤ 1000) (hb : -1000 ≤ b) (hb2 : b ≤ 1000) : spec_l1Abs.f (wrap64 (a - b)) = some (dist a b) := by
  unfold spec_l1Abs.f dist
  rw [wr (x := a - b) (by omega) (by omega), wr (by omega) (by omega), most_some]
  simp only [Option.bind_some]
  congr 2; omega
/-- The distance of two places. -/
def far (a0 a1 : Int) (a2 : Bool) (b0 b1 : Int) (b2 : Bool) : Int := dist a1 b1 + (if a2 = b2 then 0 else 1) + (if (a0 = 0) = (b0 = 0) then dist a0 b0 else 4)
theorem dist_le {a b : Int} (ha : -1000 ≤ a) (ha2 : a ≤ 1000) (hb : -1000 ≤ b) (hb2 : b ≤ 1000) : dist a b ≤ 2000 := by unfold dist mx; split <;> omega
theorem far_impl {a0 a1 : Int} {a2 : Bool} {b0 b1 : Int} {b2 : Bool} (ha : good a0 a1 a2 = true) (hb : good b0 b1 b2 = true) : impl_Place_distance.f a0 a1 a2 b0 b1 b2 = some (far a0 a1 a2 b0 b1 b2) := by
  obtain ⟨⟨h1, h2⟩, ⟨h3, h4⟩, _⟩ := good_iff.1 ha
  obtain ⟨⟨h5, h6⟩, ⟨h7, h8⟩, _⟩ := good_iff.1 hb
  unfold impl_Place_distance.f far
  rw [dist_impl (by omega) (by omega) (by omega) (by omega), dist_impl (by omega) (by omega) (by omega) (by omega)]
  have d0 := dist_nonneg a0 b0
  have d1 := dist_nonneg a1 b1
  have e0 := dist_le (a := a0) (b := b0) (by omega) (by omega) (by omega) (by omega)
  have e1 := dist_le (a := a1) (b := b1) (by omega) (by omega) (by omega) (by omega)
  simp only [Option.bind_some]
  generalize dist a1 b1 = x1 at *
  generalize dist a0 b0 = x0 at *
  rw [wr (x := x1 + 1) (by omega) (by omega), wr (x := x1 + 4) (by omega) (by omega), wr (x := x1 + 1 + 4) (by omega) (by omega), wr (x := x1 + 1 + x0) (by omega) (by omega), wr (x := x1 + x0) (by omega) (by omega)]
  rw [show (a0 == 0) = decide (a0 = 0) from rfl, show (b0 == 0) = decide (b0 = 0) from rfl]
  by_cases z0 : a0 = 0 <;> by_cases z1 : b0 = 0 <;> cases a2 <;> cases b2 <;> simp [z0, z1]
theorem far_spec {a0 a1 : Int} {a2 : Bool} {b0 b1 : Int} {b2 : Bool} (ha : good a0 a1 a2 = true) (hb : good b0 b1 b2 = true) : spec_plFar.f a0 a1 a2 b0 b1 b2 = some (far a0 a1 a2 b0 b1 b2) := by
  obtain ⟨⟨h1, h2⟩, ⟨h3, h4⟩, _⟩ := good_iff.1 ha
  obtain ⟨⟨h5, h6⟩, ⟨h7, h8⟩, _⟩ := good_iff.1 hb
  rw [← far_impl ha hb]
  unfold spec_plFar.f impl_Place_distance.f
  rw [dist_spec (by omega) (by omega) (by omega) (by omega), dist_spec (by omega) (by omega) (by omega) (by omega), dist_impl (by omega) (by omega) (by omega) (by omega), dist_impl (by omega) (by omega) (by omega) (by omega)]
/-- All the places. -/
def places : List S25 := (spec_plAll.f 200).getD []
theorem plAll_200 : spec_plAll.f 200 = some places := by
  have h : (spec_plAll.f 200).isSome = true := by decide +kernel
  unfold places
  cases hh : spec_plAll.f 200 with
  | none => rw [hh] at h; cases h
  | some l => rfl
theorem plAll_eq (k : Nat) (hk : 200 ≤ k) : spec_plAll.f k = some places := at_rounds (g := fun k => spec_plAll.f k) (fun k => spec_plAll.mono k) hk plAll_200
theorem places_length : places.length = 57 := by decide +kernel
theorem places_good : (places.all fun q => good q.f0 q.f1 q.f2) = true := by decide +kernel
theorem rdP (pre : List S25) (x : S25) (rest : List S25) : rd_T25 (pre ++ x :: rest) (pre.length : Int) = x := by
  unfold rd_T25; simp
theorem wz {x : Int} (h0 : -4611686018427387904 ≤ x) (h1 : x ≤ 4611686018427387904) : wrap64 x = x := by unfold wrap64; omega
theorem stepP (pre : List S25) (v : S25) (h : pre.length ≤ 4611686018427387903) : wrap64 ((pre.length : Int) + 1) = ((pre ++ [v]).length : Int) := by
  rw [wz (by omega) (by omega)]; simp
/-- The place of a code, if there is one. -/
def pl (n : Nat) : Option S25 := (impl_PlaceOfCode.f (n : Int)).bind fun t => if t.2.2.2 then some ⟨t.1, t.2.1, t.2.2.1⟩ else none
theorem pl_all : ((List.range 60).all fun n => (impl_PlaceOfCode.f (n : Int)).any fun t => !t.2.2.2 || good t.1 t.2.1 t.2.2.1) = true := by decide +kernel
theorem pl_places : (List.range' 0 60).filterMap pl = places := by kernel_rfl
/-- The places near one. -/
def near (a0 a1 : Int) (a2 : Bool) (d : Int) (L : List S25) : List S25 := L.filter fun q => decide (far a0 a1 a2 q.f0 q.f1 q.f2 ≤ d)
theorem within_spec_l0 (a0 a1 : Int) (a2 : Bool) (hg : good a0 a1 a2 = true) (a : Int) (L : List S25) (hL : L.length ≤ 1000) : ∀ (rest pre acc : List S25) (k : Nat), pre ++ rest = L → (rest.all fun q => good q.f0 q.f1 q.f2) = true → acc.length + rest.length ≤ 1000 → rest.length < k →
    spec_PlacesWithin.l0 k a acc L (L.length : Int) (pre.length : Int) a0 a1 a2 = some (acc ++ near a0 a1 a2 a rest, true) := by
  intro rest
  induction rest with
  | nil =>
    intro pre acc k h hc hb hk
    obtain ⟨k, rfl⟩ : ∃ q, k = q + 1 := ⟨k - 1, by omega⟩
    simp only [spec_PlacesWithin.l0]
    rw [if_neg (by rw [← h]; simp)]; simp [near]
  | cons x xs ih =>
    intro pre acc k h hc hb hk
    obtain ⟨k, rfl⟩ : ∃ q, k = q + 1 := ⟨k - 1, by omega⟩
    rw [List.all_cons, Bool.and_eq_true] at hc
    have hl : pre.length < L.length := by rw [← h]; simp
    rw [List.length_cons] at hk hb
    simp only [spec_PlacesWithin.l0]
    rw [if_pos (by omega), if_pos (by omega), if_pos (by omega)]
    have hr : rd_T25 L (pre.length : Int) = x := by rw [← h]; exact rdP pre x xs
    rw [hr, far_spec hg hc.1]
    simp only [Option.bind_some]
    rw [stepP pre x (by omega)]
    unfold near
    by_cases hf : far a0 a1 a2 x.f0 x.f1 x.f2 ≤ a
    · rw [if_pos hf, if_pos (by omega), ih (pre ++ [x]) _ k (by rw [← h]; simp) hc.2 (by rw [List.length_append]; simp; omega) (by omega)]
      simp [hf, near]
    · rw [if_neg hf, ih (pre ++ [x]) acc k (by rw [← h]; simp) hc.2 (by omega) (by omega)]
      simp [hf, near]
theorem within_impl_l0 (a0 a1 : Int) (a2 : Bool) (hg : good a0 a1 a2 = true) (a : Int) : ∀ (d i k : Nat) (acc : List S25), i + d = 60 → acc.length + d ≤ 1000 → d < k →
    impl_PlacesWithin.l0 k a acc (i : Int) a0 a1 a2 = some (acc ++ near a0 a1 a2 a ((List.range' i d).filterMap pl), true) := by
  intro d
  induction d with
  | zero =>
    intro i k acc hi hb hk
    obtain ⟨k, rfl⟩ : ∃ q, k = q + 1 := ⟨k - 1, by omega⟩
    simp only [impl_PlacesWithin.l0]
    rw [if_neg (by omega)]; simp [near]
  | succ d ih =>
    intro i k acc hi hb hk
    obtain ⟨k, rfl⟩ : ∃ q, k = q + 1 := ⟨k - 1, by omega⟩
    have hw : wrap64 ((i : Int) + 1) = ((i + 1 : Nat) : Int) := by rw [wz (by omega) (by omega)]; rfl
    have h1 := List.all_eq_true.1 pl_all i (List.mem_range.2 (by omega))
    simp only [impl_PlacesWithin.l0]
    rw [if_pos (by omega), hw, List.range'_succ]
    cases hx : impl_PlaceOfCode.f (i : Int) with
    | none => rw [hx] at h1; cases h1
    | some t =>
      obtain ⟨t0, t1, t2, t3⟩ := t
      rw [hx] at h1
      simp only [Option.any_some] at h1
      have hp : pl i = if t3 then some ⟨t0, t1, t2⟩ else none := by unfold pl; rw [hx]; rfl
      simp only [Option.bind_some]
      cases t3
      · rw [if_neg (by simp), ih (i + 1) k acc (by omega) (by omega) (by omega), List.filterMap_cons_none (by rw [hp]; rfl)]
      · simp only [Bool.not_true, Bool.false_or] at h1
        rw [if_pos rfl, far_impl hg h1, List.filterMap_cons_some (by rw [hp]; rfl)]
        simp only [Option.bind_some]
        by_cases hf : far a0 a1 a2 t0 t1 t2 ≤ a
        · rw [if_pos hf, if_pos (by omega), ih (i + 1) k _ (by omega) (by rw [List.length_append]; simp; omega) (by omega)]
          simp [hf, near]
        · rw [if_neg hf, ih (i + 1) k _ (by omega) (by omega) (by omega)]
          simp [hf, near]
theorem near_length (a0 a1 : Int) (a2 : Bool) (d : Int) (L : List S25) : (near a0 a1 a2 d L).length ≤ L.length := List.length_filter_le _ _
/-- Both answer the same places, at any number of rounds from here on. -/
theorem within_same (a0 a1 : Int) (a2 : Bool) (a : Int) : ∃ (l : List S25) (b : Bool), l.length ≤ 100 ∧ (∀ k, 300 ≤ k → spec_PlacesWithin.f k a0 a1 a2 a = some (l, b)) ∧ ∀ k, 300 ≤ k → impl_PlacesWithin.f k a0 a1 a2 a = some (l, b) := by
  cases hg : good a0 a1 a2
  · refine ⟨[], false, by simp, fun k hk => ?_, fun k hk => ?_⟩
    · obtain ⟨k, rfl⟩ : ∃ q, k = q + 1 := ⟨k - 1, by omega⟩
      unfold spec_PlacesWithin.f; rw [good_spec, hg]; rfl
    · obtain ⟨k, rfl⟩ : ∃ q, k = q + 1 := ⟨k - 1, by omega⟩
      unfold impl_PlacesWithin.f; rw [good_impl, hg]; rfl
  · by_cases ha : 0 ≤ a ∧ a ≤ 5
    · refine ⟨near a0 a1 a2 a places, true, ?_, fun k hk => ?_, fun k hk => ?_⟩
      · have := near_length a0 a1 a2 a places
        rw [places_length] at this; omega
      · obtain ⟨k, rfl⟩ : ∃ q, k = q + 1 := ⟨k - 1, by omega⟩
        unfold spec_PlacesWithin.f; rw [good_spec, hg, in_some, decide_eq_true ha]
        simp only [Option.bind_some, if_true, spec_PlacesWithin.j0, Bool.not_true, Bool.false_eq_true, if_false]
        rw [plAll_eq k (by omega)]
        simp only [Option.bind_some]
        have h := within_spec_l0 a0 a1 a2 hg a places (by rw [places_length]; omega) places [] [] k (by simp) places_good (by rw [places_length]; simp) (by rw [places_length]; omega)
        simpa using h
      · obtain ⟨k, rfl⟩ : ∃ q, k = q + 1 := ⟨k - 1, by omega⟩
        unfold impl_PlacesWithin.f; rw [good_impl, hg, within_some, decide_eq_true ha]
        simp only [Option.bind_some, if_true, impl_PlacesWithin.j0, Bool.not_true, Bool.false_eq_true, if_false]
        have h := within_impl_l0 a0 a1 a2 hg a 60 0 k [] (by omega) (by simp) (by omega)
        rw [pl_places] at h
        simpa using h
    · refine ⟨[], false, by simp, fun k hk => ?_, fun k hk => ?_⟩
      · obtain ⟨k, rfl⟩ : ∃ q, k = q + 1 := ⟨k - 1, by omega⟩
        unfold spec_PlacesWithin.f; rw [good_spec, hg, in_some, decide_eq_false ha]; rfl
      · obtain ⟨k, rfl⟩ : ∃ q, k = q + 1 := ⟨k - 1, by omega⟩
        unfold impl_PlacesWithin.f; rw [good_impl, hg, within_some, decide_eq_false ha]; rfl
/-- The sign of a difference. -/
theorem sign_spec (a b : Int) (h0 : -1000 ≤ a) (h1 : a ≤ 1000) (h2 : -1000 ≤ b) (h3 : b ≤ 1000) (h : a ≠ b) : spec_l1Sign.f (wrap64 (b - a)) = some (if a < b then 1 else -1) := by
  unfold spec_l1Sign.f
  rw [wz (by omega) (by omega)]
  by_cases hb : a < b
  · rw [if_pos (by omega), if_pos hb]
  · rw [if_neg (by omega), if_pos (by omega), if_neg hb]
theorem sign_impl (a b : Int) (h : a ≠ b) : cmp_Compare_int.f b a = some (if a < b then 1 else -1) := by
  unfold cmp_Compare_int.f cmp_isNaN_int.f
  simp only [Option.bind_some, bne_self_eq_false, Bool.false_eq_true, if_false]
  by_cases hb : a < b
  · rw [if_neg (by omega), if_pos (by omega), if_pos hb]
  · rw [if_pos (by omega), if_neg hb]
/-- Both go the same way. -/
theorem way_l0 (b0 b1 : Int) (b2 : Bool) (hb0 : -900 ≤ b0) (hb0' : b0 ≤ 900) (hb1 : -900 ≤ b1) (hb1' : b1 ≤ 900) : ∀ (n : Nat) (a0 a1 : Int) (a2 : Bool) (acc : List S25), -900 ≤ a0 → a0 ≤ 900 → -900 ≤ a1 → a1 ≤ 900 →
    (a0 - b0).natAbs + (a1 - b1).natAbs + (if a2 = b2 then 0 else 1) = n → acc.length + n ≤ 100000 →
    ∃ l : List S25, l.length = acc.length + n ∧ (∀ k, n < k → spec_WayOfPlaces.l0 k acc a0 a1 a2 b0 b1 b2 = some (l, true)) ∧ ∀ k, n < k → impl_WayOfPlaces.l0 k acc a0 a1 a2 b0 b1 b2 = some (l, true) := by
  intro n
  induction n with
  | zero =>
    intro a0 a1 a2 acc h0 h1 h2 h3 hn hl
    have e2 : a2 = b2 := by
      by_cases h : a2 = b2
      · exact h
      · rw [if_neg h] at hn; omega
    rw [if_pos e2] at hn
    have e0 : a0 = b0 := by omega
    have e1 : a1 = b1 := by omega
    subst e0 e1 e2
    refine ⟨acc, rfl, fun k hk => ?_, fun k hk => ?_⟩
    · obtain ⟨k, rfl⟩ : ∃ q, k = q + 1 := ⟨k - 1, by omega⟩
      simp [spec_WayOfPlaces.l0]
    · obtain ⟨k, rfl⟩ : ∃ q, k = q + 1 := ⟨k - 1, by omega⟩
      simp [impl_WayOfPlaces.l0]
  | succ n ih =>
    intro a0 a1 a2 acc h0 h1 h2 h3 hn hl
    have hc : (!(a0 == b0) || (!(a1 == b1) || (!(a2 == b2)))) = true := by
      by_cases e0 : a0 = b0
      · by_cases e1 : a1 = b1
        · by_cases e2 : a2 = b2
          · subst e0 e1 e2; simp at hn
          · simp [e2]
        · simp [e1]
      · simp [e0]
    by_cases e1 : a1 = b1
    · by_cases e0 : a0 = b0
      · have e2 : a2 ≠ b2 := by
          intro h; subst e0 e1 h; simp at hn
        rw [if_neg e2] at hn
        obtain ⟨l, hl1, hl2, hl3⟩ := ih a0 a1 b2 (acc ++ [⟨a0, a1, b2⟩]) h0 h1 h2 h3 (by rw [if_pos rfl]; omega) (by rw [List.length_append]; simp; omega)
        refine ⟨l, by rw [hl1, List.length_append]; simp; omega, fun k hk => ?_, fun k hk => ?_⟩
        · obtain ⟨k, rfl⟩ : ∃ q, k = q + 1 := ⟨k - 1, by omega⟩
          simp only [spec_WayOfPlaces.l0]
          rw [if_pos hc, if_pos e1, if_pos e0, if_pos (by omega)]
          exact hl2 k (by omega)
        · obtain ⟨k, rfl⟩ : ∃ q, k = q + 1 := ⟨k - 1, by omega⟩
          simp only [impl_WayOfPlaces.l0]
          rw [if_pos hc, if_pos e1, if_pos e0, if_pos (by omega)]
          exact hl3 k (by omega)
      · obtain ⟨s, hs⟩ : ∃ s : Int, s = if a0 < b0 then 1 else -1 := ⟨_, rfl⟩
        have hs2 : -900 ≤ a0 + s ∧ a0 + s ≤ 900 ∧ (a0 - b0).natAbs = (a0 + s - b0).natAbs + 1 := by
          by_cases h : a0 < b0
          · rw [if_pos h] at hs; omega
          · rw [if_neg h] at hs; omega
        obtain ⟨l, hl1, hl2, hl3⟩ := ih (a0 + s) a1 a2 (acc ++ [⟨a0 + s, a1, a2⟩]) hs2.1 hs2.2.1 h2 h3 (by omega) (by rw [List.length_append]; simp; omega)
        refine ⟨l, by rw [hl1, List.length_append]; simp; omega, fun k hk => ?_, fun k hk => ?_⟩
        · obtain ⟨k, rfl⟩ : ∃ q, k = q + 1 := ⟨k - 1, by omega⟩
          simp only [spec_WayOfPlaces.l0]
          rw [if_pos hc, if_pos e1, if_neg e0, sign_spec a0 b0 (by omega) (by omega) (by omega) (by omega) e0, ← hs]
          simp only [Option.bind_some]
          rw [if_pos (by omega), wz (x := a0 + s) (by omega) (by omega)]
          exact hl2 k (by omega)
        · obtain ⟨k, rfl⟩ : ∃ q, k = q + 1 := ⟨k - 1, by omega⟩
          simp only [impl_WayOfPlaces.l0]
          rw [if_pos hc, if_pos e1, if_neg e0, sign_impl a0 b0 e0, ← hs]
          simp only [Option.bind_some]
          rw [if_pos (by omega), wz (x := a0 + s) (by omega) (by omega)]
          exact hl3 k (by omega)
    · obtain ⟨s, hs⟩ : ∃ s : Int, s = if a1 < b1 then 1 else -1 := ⟨_, rfl⟩
      have hs2 : -900 ≤ a1 + s ∧ a1 + s ≤ 900 ∧ (a1 - b1).natAbs = (a1 + s - b1).natAbs + 1 := by
        by_cases h : a1 < b1
        · rw [if_pos h] at hs; omega
        · rw [if_neg h] at hs; omega
      obtain ⟨l, hl1, hl2, hl3⟩ := ih a0 (a1 + s) a2 (acc ++ [⟨a0, a1 + s, a2⟩]) h0 h1 hs2.1 hs2.2.1 (by omega) (by rw [List.length_append]; simp; omega)
      refine ⟨l, by rw [hl1, List.length_append]; simp; omega, fun k hk => ?_, fun k hk => ?_⟩
      · obtain ⟨k, rfl⟩ : ∃ q, k = q + 1 := ⟨k - 1, by omega⟩
        simp only [spec_WayOfPlaces.l0]
        rw [if_pos hc, if_neg e1, sign_spec a1 b1 (by omega) (by omega) (by omega) (by omega) e1, ← hs]
        simp only [Option.bind_some]
        rw [if_pos (by omega), wz (x := a1 + s) (by omega) (by omega)]
        exact hl2 k (by omega)
      · obtain ⟨k, rfl⟩ : ∃ q, k = q + 1 := ⟨k - 1, by omega⟩
        simp only [impl_WayOfPlaces.l0]
        rw [if_pos hc, if_neg e1, sign_impl a1 b1 e1, ← hs]
        simp only [Option.bind_some]
        rw [if_pos (by omega), wz (x := a1 + s) (by omega) (by omega)]
        exact hl3 k (by omega)
theorem way_same (a0 a1 : Int) (a2 : Bool) (b0 b1 : Int) (b2 : Bool) : ∃ (l : List S25) (b : Bool), l.length ≤ 100 ∧ (∀ k, 300 ≤ k → spec_WayOfPlaces.f k a0 a1 a2 b0 b1 b2 = some (l, b)) ∧ ∀ k, 300 ≤ k → impl_WayOfPlaces.f k a0 a1 a2 b0 b1 b2 = some (l, b) := by
  by_cases hg : good a0 a1 a2 = true ∧ good b0 b1 b2 = true ∧ ((a0 == 0) != (b0 == 0)) = false
  · obtain ⟨ha, hb, hz⟩ := hg
    obtain ⟨⟨p1, p2⟩, ⟨p3, p4⟩, _⟩ := good_iff.1 ha
    obtain ⟨⟨q1, q2⟩, ⟨q3, q4⟩, _⟩ := good_iff.1 hb
    have hm : (a0 - b0).natAbs + (a1 - b1).natAbs + (if a2 = b2 then 0 else 1) ≤ 20 := by split <;> omega
    obtain ⟨l, h1, h2, h3⟩ := way_l0 b0 b1 b2 (by omega) (by omega) (by omega) (by omega) _ a0 a1 a2 [⟨a0, a1, a2⟩] (by omega) (by omega) (by omega) (by omega) rfl (by simp; omega)
    refine ⟨l, true, by rw [h1]; simp; omega, fun k hk => ?_, fun k hk => ?_⟩
    · obtain ⟨k, rfl⟩ : ∃ q, k = q + 1 := ⟨k - 1, by omega⟩
      unfold spec_WayOfPlaces.f; rw [good_spec, ha, good_spec, hb, hz]
      simp only [Option.bind_some, if_true, spec_WayOfPlaces.j0, Bool.false_eq_true, if_false]
      exact h2 k (by omega)
    · obtain ⟨k, rfl⟩ : ∃ q, k = q + 1 := ⟨k - 1, by omega⟩
      unfold impl_WayOfPlaces.f; rw [good_impl, ha, good_impl, hb, hz]
      simp only [Option.bind_some, if_true, impl_WayOfPlaces.j0, Bool.false_eq_true, if_false]
      exact h3 k (by omega)
  · refine ⟨[], false, by simp, fun k hk => ?_, fun k hk => ?_⟩
    · obtain ⟨k, rfl⟩ : ∃ q, k = q + 1 := ⟨k - 1, by omega⟩
      unfold spec_WayOfPlaces.f; rw [good_spec, good_spec]
      simp only [Option.bind_some]
      cases ha : good a0 a1 a2
      · rfl
      · cases hb : good b0 b1 b2
        · rfl
        · cases hz : ((a0 == 0) != (b0 == 0))
          · exact absurd ⟨ha, hb, hz⟩ hg
          · rfl
    · obtain ⟨k, rfl⟩ : ∃ q, k = q + 1 := ⟨k - 1, by omega⟩
      unfold impl_WayOfPlaces.f; rw [good_impl, good_impl]
      simp only [Option.bind_some]
      cases ha : good a0 a1 a2
      · rfl
      · cases hb : good b0 b1 b2
        · rfl
        · cases hz : ((a0 == 0) != (b0 == 0))
          · exact absurd ⟨ha, hb, hz⟩ hg
          · rfl
theorem wc {x : Int} (h0 : -4611686018427387904 ≤ x) (h1 : x ≤ 4611686018427387904) : wrap64 x = x := by unfold wrap64; omega
theorem wupc {i n : Nat} (h : i < n) (hn : n ≤ 1048576) : wrap64 ((i : Int) + 1) = ((i + 1 : Nat) : Int) := by rw [wc (by omega) (by omega)]; rfl
/-- A place's code. -/
def cdI (x : S25) : Int := (impl_Place_code.f x.f0 x.f1 x.f2).getD 0
theorem code_facts : (places.all fun p => (impl_Place_code.f p.f0 p.f1 p.f2 == some (cdI p)) && (decide (0 ≤ cdI p) && (decide (cdI p < 60) && (impl_PlaceOfCode.f (cdI p) == some (p.f0, p.f1, p.f2, true))))) = true := by decide +kernel
theorem code_at {p : S25} (h : p ∈ places) : impl_Place_code.f p.f0 p.f1 p.f2 = some (cdI p) ∧ 0 ≤ cdI p ∧ cdI p < 60 ∧ impl_PlaceOfCode.f (cdI p) = some (p.f0, p.f1, p.f2, true) := by
  have := List.all_eq_true.1 code_facts p h
  simpa only [Bool.and_eq_true, beq_iff_eq, decide_eq_true_eq] using this
theorem code_up : (List.range 57).all (fun i => (List.range i).all fun j => decide (cdI (places.getD j z25) < cdI (places.getD i z25))) = true := by decide +kernel
theorem code_lt {i j : Nat} (hi : i < 57) (hj : j < i) : cdI (places.getD j z25) < cdI (places.getD i z25) :=
  of_decide_eq_true (List.all_eq_true.1 (List.all_eq_true.1 code_up i (List.mem_range.2 hi)) j (List.mem_range.2 hj))
theorem code_inj {p q : S25} (hp : p ∈ places) (hq : q ∈ places) (h : cdI p = cdI q) : p = q := by
  have h1 := (code_at hp).2.2.2
  rw [h, (code_at hq).2.2.2] at h1
  simp only [Option.some.injEq, Prod.mk.injEq, and_true] at h1
  obtain ⟨a, b, c⟩ := p
  obtain ⟨a', b', c'⟩ := q
  simp only at h1
  rw [h1.1, h1.2.1, h1.2.2]
theorem good_fin : ∀ a ∈ [(0 : Int), 1, 2, 3, 4, 5, 6, 7, 8, 9], ∀ b ∈ [(-1 : Int), 0, 1], ∀ c ∈ [false, true], good a b c = true → (places.any fun p => p.f0 == a && (p.f1 == b && p.f2 == c)) = true := by decide +kernel
theorem good_in {x : S25} (h : good x.f0 x.f1 x.f2 = true) : x ∈ places := by
  obtain ⟨ha, hb, -⟩ := good_iff.1 h
  have h1 : x.f0 ∈ [(0 : Int), 1, 2, 3, 4, 5, 6, 7, 8, 9] := by
    have : x.f0 = 0 ∨ x.f0 = 1 ∨ x.f0 = 2 ∨ x.f0 = 3 ∨ x.f0 = 4 ∨ x.f0 = 5 ∨ x.f0 = 6 ∨ x.f0 = 7 ∨ x.f0 = 8 ∨ x.f0 = 9 := by omega
    simpa using this
  have h2 : x.f1 ∈ [(-1 : Int), 0, 1] := by
    have : x.f1 = -1 ∨ x.f1 = 0 ∨ x.f1 = 1 := by omega
    simpa using this
  obtain ⟨p, hp, he⟩ := List.any_eq_true.1 (good_fin _ h1 _ h2 x.f2 (by cases x.f2 <;> simp) h)
  simp only [Bool.and_eq_true, beq_iff_eq] at he
  obtain ⟨a, b, c⟩ := p
  obtain ⟨a', b', c'⟩ := x
  simp only at he
  rw [← he.1, ← he.2.1, ← he.2.2]
  exact hp
theorem at_mem {i : Nat} (h : i < 57) : places.getD i z25 ∈ places := by
  have hl : i < places.length := by rw [places_length]; exact h
  rw [List.getD_eq_getElem?_getD, List.getElem?_eq_getElem hl]
  exact List.getElem_mem hl
theorem mem_at {p : S25} (h : p ∈ places) : ∃ i, i < 57 ∧ places.getD i z25 = p := by
  obtain ⟨i, hi, rfl⟩ := List.getElem_of_mem h
  exact ⟨i, by rw [places_length] at hi; exact hi, by rw [List.getD_eq_getElem?_getD, List.getElem?_eq_getElem hi]; rfl⟩
/-- Are they the same, as the reference asks it? -/
def eqp (p x : S25) : Bool := x.f0 == p.f0 && (x.f1 == p.f1 && (x.f2 == p.f2))
theorem eqp_iff {p x : S25} : eqp p x = true ↔ x = p := by
  unfold eqp
  simp only [Bool.and_eq_true, beq_iff_eq]
  obtain ⟨a, b, c⟩ := p
  obtain ⟨a', b', c'⟩ := x
  constructor
  · rintro ⟨h1, h2, h3⟩
    simp only at h1 h2 h3
    rw [h1, h2, h3]
  · intro h
    injection h with h1 h2 h3
    exact ⟨h1, h2, h3⟩
/-- How often a place comes. -/
def often (l : List S25) (p : S25) : Int := (l.countP (eqp p) : Int)
theorem often_code {l : List S25} (hl : ∀ x ∈ l, x ∈ places) {p : S25} (hp : p ∈ places) : ((l.countP fun x => cdI x == cdI p : Nat) : Int) = often l p := by
  unfold often
  congr 1
  refine List.countP_congr (fun x hx => ?_)
  rw [beq_iff_eq, eqp_iff]
  exact ⟨fun h => code_inj (hl x hx) hp h, fun h => by rw [h]⟩
theorem rd_set_same {l : List Int} {c v : Int} (h0 : 0 ≤ c) (h1 : c < (l.length : Int)) : rd (l.set c.toNat v) c = v := by
  unfold rd
  rw [List.getD_eq_getElem?_getD, List.getElem?_set_self (by omega)]; rfl
theorem rd_set_other {l : List Int} {c d v : Int} (h0 : 0 ≤ c) (h1 : 0 ≤ d) (h : c ≠ d) : rd (l.set c.toNat v) d = rd l d := by
  unfold rd
  rw [List.getD_eq_getElem?_getD, List.getD_eq_getElem?_getD, List.getElem?_set_ne (by omega)]
theorem count_eq : ∀ (l : List S25), (∀ x ∈ l, x ∈ places) → ∀ cs0 : List Int, cs0.length = 60 → (∀ c, 0 ≤ c → c < 60 → 0 ≤ rd cs0 c ∧ rd cs0 c + l.length ≤ 1000000) →
    ∃ cs, impl_CommonPlace.count l cs0 = some cs ∧ cs.length = 60 ∧ ∀ c, 0 ≤ c → c < 60 → rd cs c = rd cs0 c + ((l.countP fun x => cdI x == c : Nat) : Int)
  | [], _, cs0, h0, _ => ⟨cs0, rfl, h0, fun c _ _ => by simp⟩
  | x :: xs, hl, cs0, h0, hb => by
    obtain ⟨h1, h2, h3, -⟩ := code_at (hl x List.mem_cons_self)
    have hbx := hb (cdI x) h2 h3
    rw [List.length_cons] at hbx
    have hw : wrap64 (rd cs0 (cdI x) + 1) = rd cs0 (cdI x) + 1 := wc (by omega) (by omega)
    obtain ⟨cs, g1, g2, g3⟩ := count_eq xs (fun y hy => hl y (List.mem_cons_of_mem _ hy)) (cs0.set (cdI x).toNat (rd cs0 (cdI x) + 1)) (by rw [List.length_set]; exact h0) (fun c c0 c1 => by
      have hc := hb c c0 c1
      rw [List.length_cons] at hc
      by_cases e : cdI x = c
      · subst e; rw [rd_set_same h2 (by omega)]; omega
      · rw [rd_set_other h2 c0 e]; omega)
    refine ⟨cs, by rw [impl_CommonPlace.count, h1, Option.bind_some, if_pos ⟨h2, h3⟩, hw]; exact g1, g2, fun c c0 c1 => ?_⟩
    rw [g3 c c0 c1, List.countP_cons]
    by_cases e : cdI x = c
    · subst e; rw [rd_set_same h2 (by omega)]; simp; omega
    · rw [rd_set_other h2 c0 e]; simp [e]
theorem foldl_max (l : List Int) : ∀ a, a ≤ l.foldl max a ∧ (∀ v ∈ l, v ≤ l.foldl max a) ∧ (l.foldl max a = a ∨ l.foldl max a ∈ l) := by
  induction l with
  | nil => intro a; simp
  | cons x xs ih =>
    intro a
    obtain ⟨h1, h2, h3⟩ := ih (max a x)
    rw [List.foldl_cons]
    refine ⟨by omega, fun v hv => ?_, ?_⟩
    · rcases List.mem_cons.1 hv with rfl | hv
      · omega
      · exact h2 v hv
    · rcases h3 with h3 | h3
      · rw [h3, Int.max_def]
        split
        · exact .inr List.mem_cons_self
        · exact .inl rfl
      · exact .inr (List.mem_cons_of_mem _ h3)
theorem maxOf_spec {l : List Int} (h : l ≠ []) : (∀ v ∈ l, v ≤ Lib.maxOf l) ∧ Lib.maxOf l ∈ l := by
  unfold Lib.maxOf
  obtain ⟨x, xs, rfl⟩ := List.exists_cons_of_ne_nil h
  obtain ⟨h1, h2, h3⟩ := foldl_max (x :: xs) ((x :: xs).headD 0)
  refine ⟨h2, ?_⟩
  rcases h3 with h3 | h3
  · rw [h3]; exact List.mem_cons_self
  · exact h3
theorem rd_mem {l : List Int} {c : Int} (h0 : 0 ≤ c) (h1 : c < (l.length : Int)) : rd l c ∈ l := by
  unfold rd
  rw [List.getD_eq_getElem?_getD, List.getElem?_eq_getElem (by omega)]
  exact List.getElem_mem _
theorem mem_rd {l : List Int} {v : Int} (h : v ∈ l) : ∃ i : Nat, i < l.length ∧ rd l (i : Int) = v := by
  obtain ⟨i, hi, rfl⟩ := List.getElem_of_mem h
  refine ⟨i, hi, ?_⟩
  unfold rd
  rw [Int.toNat_natCast, List.getD_eq_getElem?_getD, List.getElem?_eq_getElem hi]; rfl
theorem index_first (cs : List Int) (m : Int) (hn : cs.length ≤ 1048576) : ∀ (d k j : Nat), j + d = cs.length → d < k → (∃ q : Nat, j ≤ q ∧ q < cs.length ∧ rd cs (q : Int) = m) →
    ∃ i : Nat, j ≤ i ∧ i < cs.length ∧ slices_Index_int_int.l0 k cs m (cs.length : Int) (j : Int) = some (i : Int) ∧ rd cs (i : Int) = m ∧ ∀ q : Nat, j ≤ q → q < i → rd cs (q : Int) ≠ m := by
  intro d
  induction d with
  | zero => rintro k j hj hk ⟨q, h1, h2, -⟩; omega
  | succ d ih =>
    rintro k j hj hk ⟨q, h1, h2, h3⟩
    obtain ⟨k, rfl⟩ : ∃ q, k = q + 1 := ⟨k - 1, by omega⟩
    rw [slices_Index_int_int.l0, if_pos (by omega), if_pos (by omega), if_pos (by omega)]
    by_cases e : m = rd cs (j : Int)
    · rw [if_pos e]
      exact ⟨j, Nat.le_refl _, by omega, rfl, e.symm, fun q h4 h5 => by omega⟩
    · rw [if_neg e, wupc (show j < cs.length by omega) hn]
      have hqj : q ≠ j := fun z => e (by rw [← z]; exact h3.symm)
      obtain ⟨i, g1, g2, g3, g4, g5⟩ := ih k (j + 1) (by omega) (by omega) ⟨q, by omega, h2, h3⟩
      refine ⟨i, by omega, g2, g3, g4, fun r h4 h5 => ?_⟩
      by_cases er : r = j
      · subst er; exact fun z => e z.symm
      · exact g5 r (by omega) h5
theorem list_l0 (l : List S25) (hn : l.length ≤ 1048576) : ∀ (d k j : Nat), j + d = l.length → d < k → spec_plList.l0 k l l (l.length : Int) (j : Int) = some ((l.drop j).all (fun x => good x.f0 x.f1 x.f2) && decide (l.length ≤ 40)) := by
  intro d
  induction d with
  | zero =>
    intro k j hj hk
    obtain ⟨k, rfl⟩ : ∃ q, k = q + 1 := ⟨k - 1, by omega⟩
    rw [spec_plList.l0, if_neg (by omega), List.drop_eq_nil_of_le (by omega), List.all_nil, Bool.true_and]
    congr 1
    by_cases h : l.length ≤ 40
    · rw [decide_eq_true h, decide_eq_true (by omega)]
    · rw [decide_eq_false h, decide_eq_false (by omega)]
  | succ d ih =>
    intro k j hj hk
    obtain ⟨k, rfl⟩ : ∃ q, k = q + 1 := ⟨k - 1, by omega⟩
    have hjl : j < l.length := by omega
    have e : rd_T25 l (j : Int) = l[j] := by
      unfold rd_T25
      rw [Int.toNat_natCast, List.getD_eq_getElem?_getD, List.getElem?_eq_getElem hjl]; rfl
    rw [spec_plList.l0, if_pos (by omega), if_pos (by omega), if_pos (by omega), good_spec, Option.bind_some, wupc hjl hn, ih k (j + 1) (by omega) (by omega), List.drop_eq_getElem_cons hjl, List.all_cons, e]
    cases good l[j].f0 l[j].f1 l[j].f2 <;> simp
theorem inner (l P : List S25) (most : Int) (hn : l.length ≤ 1048576) (x22 x23 : Int) (b0 b1 : Int) (b2 : Bool) (p : S25) (k : Nat) : ∀ (e j : Nat) (c : Int), j + e = l.length → 0 ≤ c → c + e ≤ 1048576 →
    spec_CommonPlace.l1 (k + e + 1) l most c P x22 x23 l (l.length : Int) (j : Int) b0 b1 b2 p.f0 p.f1 p.f2 = if c + ((l.drop j).countP (eqp p) : Int) > most then spec_CommonPlace.l0 k l (c + ((l.drop j).countP (eqp p) : Int)) P x22 (wrap64 (x23 + 1)) p.f0 p.f1 p.f2 else spec_CommonPlace.l0 k l most P x22 (wrap64 (x23 + 1)) b0 b1 b2 := by
  intro e
  induction e with
  | zero =>
    intro j c hj h0 h1
    rw [spec_CommonPlace.l1, if_neg (by omega), List.drop_eq_nil_of_le (by omega)]
    simp
  | succ e ih =>
    intro j c hj h0 h1
    have hjl : j < l.length := by omega
    have er : rd_T25 l (j : Int) = l[j] := by
      unfold rd_T25
      rw [Int.toNat_natCast, List.getD_eq_getElem?_getD, List.getElem?_eq_getElem hjl]; rfl
    rw [show k + (e + 1) + 1 = (k + e + 1) + 1 from by omega, spec_CommonPlace.l1, if_pos (by omega), if_pos (by omega), if_pos (by omega), wupc hjl hn, wc (x := c + 1) (by omega) (by omega), ih (j + 1) (c + 1) (by omega) (by omega) (by omega), ih (j + 1) c (by omega) h0 (by omega), List.drop_eq_getElem_cons hjl, List.countP_cons, er]
    by_cases he : eqp p l[j] = true
    · rw [if_pos (show (l[j].f0 == p.f0 && (l[j].f1 == p.f1 && (l[j].f2 == p.f2))) = true from he), if_pos he, show c + 1 + (((l.drop (j + 1)).countP (eqp p) : Nat) : Int) = c + (((l.drop (j + 1)).countP (eqp p) + 1 : Nat) : Int) from by omega]
    · rw [if_neg (show ¬ (l[j].f0 == p.f0 && (l[j].f1 == p.f1 && (l[j].f2 == p.f2))) = true from he), if_neg he]
      simp only [Nat.add_zero]
/-- What is known when so many places have been asked. -/
def Inv (l : List S25) (j : Nat) (most b0 b1 : Int) (b2 : Bool) : Prop :=
  (most = 0 ∧ ∀ i, i < j → often l (places.getD i z25) = 0) ∨
  ∃ b, b < j ∧ b0 = (places.getD b z25).f0 ∧ b1 = (places.getD b z25).f1 ∧ b2 = (places.getD b z25).f2 ∧ most = often l (places.getD b z25) ∧ 0 < most ∧ (∀ i, i < j → often l (places.getD i z25) ≤ most) ∧ ∀ i, i < b → often l (places.getD i z25) < most
theorem outer (l : List S25) (hn : l.length ≤ 40) : ∀ (d j : Nat) (most b0 b1 : Int) (b2 : Bool) (k : Nat), j + d = 57 → d * 50 + 60 ≤ k → Inv l j most b0 b1 b2 →
    ∃ most' b0' b1' b2', Inv l 57 most' b0' b1' b2' ∧ spec_CommonPlace.l0 k l most places (places.length : Int) (j : Int) b0 b1 b2 = some (b0', b1', b2', true) := by
  intro d
  induction d with
  | zero =>
    intro j most b0 b1 b2 k hj hk hI
    obtain ⟨k, rfl⟩ : ∃ q, k = q + 1 := ⟨k - 1, by omega⟩
    obtain rfl : j = 57 := by omega
    rw [spec_CommonPlace.l0, places_length, if_neg (by omega)]
    exact ⟨most, b0, b1, b2, hI, rfl⟩
  | succ d ih =>
    intro j most b0 b1 b2 k hj hk hI
    obtain ⟨m, rfl⟩ : ∃ m, k = (m + l.length + 1) + 1 := ⟨k - l.length - 2, by omega⟩
    have hin := inner l places most (by omega) (places.length : Int) (j : Int) b0 b1 b2 (places.getD j z25) m l.length 0 0 (by omega) (by omega) (by omega)
    rw [List.drop_zero, Int.zero_add] at hin
    rw [spec_CommonPlace.l0, places_length, if_pos (by omega), if_pos (by omega), if_pos (by omega)]
    rw [places_length] at hin ih
    rw [show spec_CommonPlace.l1 (m + l.length + 1) l most 0 places ((57 : Nat) : Int) (j : Int) l (l.length : Int) 0 b0 b1 b2 (rd_T25 places (j : Int)).f0 (rd_T25 places (j : Int)).f1 (rd_T25 places (j : Int)).f2 = _ from hin, wupc (show j < 57 by omega) (by omega)]
    have hp : ((l.countP (eqp (places.getD j z25)) : Nat) : Int) = often l (places.getD j z25) := rfl
    rw [hp]
    have hpos : 0 ≤ often l (places.getD j z25) := by unfold often; omega
    by_cases hm : often l (places.getD j z25) > most
    · rw [if_pos hm]
      refine ih (j + 1) _ _ _ _ m (by omega) (by omega) (.inr ⟨j, by omega, rfl, rfl, rfl, rfl, ?_, fun i hi => ?_, fun i hi => ?_⟩)
      · rcases hI with ⟨h1, -⟩ | ⟨b, -, -, -, -, -, h1, -⟩ <;> omega
      · rcases hI with ⟨h1, h2⟩ | ⟨b, -, -, -, -, -, h1, h2, -⟩
        · by_cases e : i = j
          · subst e; omega
          · have := h2 i (by omega); omega
        · by_cases e : i = j
          · subst e; omega
          · have := h2 i (by omega); omega
      · rcases hI with ⟨h1, h2⟩ | ⟨b, -, -, -, -, -, h1, h2, -⟩
        · have := h2 i hi; omega
        · have := h2 i hi; omega
    · rw [if_neg hm]
      refine ih (j + 1) _ _ _ _ m (by omega) (by omega) ?_
      rcases hI with ⟨h1, h2⟩ | ⟨b, h1, h2, h3, h4, h5, h6, h7, h8⟩
      · refine .inl ⟨h1, fun i hi => ?_⟩
        by_cases e : i = j
        · subst e; omega
        · exact h2 i (by omega)
      · refine .inr ⟨b, by omega, h2, h3, h4, h5, h6, fun i hi => ?_, h8⟩
        by_cases e : i = j
        · subst e; omega
        · exact h7 i (by omega)
/-- Both tell the same most common place. -/
theorem common_same (l : List S25) (k : Nat) (hn : l.length ≤ 1048576) (hk : l.length + 5000 < k) : ∃ r1 r2 r3 r4, spec_CommonPlace.f k l = some (r1, r2, r3, r4) ∧ impl_CommonPlace.f k l = some (r1, r2, r3, r4) := by
  have hs : spec_plList.f k l = some (l.all (fun x => good x.f0 x.f1 x.f2) && decide (l.length ≤ 40)) := list_l0 l hn l.length k 0 (by omega) (by omega)
  have hall : impl_allOf_Place.f l = some (l.all fun x => good x.f0 x.f1 x.f2) := by
    unfold impl_allOf_Place.f
    have h1 : (l.all fun x => (impl_IsPlace.f x.f0 x.f1 x.f2).isSome) = true := by
      rw [List.all_eq_true]; intro x _; rw [good_impl]; rfl
    have h2 : impl_allOf_Place.p = fun x => good x.f0 x.f1 x.f2 := by
      funext x; unfold impl_allOf_Place.p; rw [good_impl]; cases good x.f0 x.f1 x.f2 <;> rfl
    rw [if_pos h1, h2]
  obtain ⟨k, rfl⟩ : ∃ q, k = q + 1 := ⟨k - 1, by omega⟩
  unfold spec_CommonPlace.f impl_CommonPlace.f
  rw [hs, within_some, hall, Option.bind_some, Option.bind_some]
  by_cases hlen : 1 ≤ l.length ∧ l.length ≤ 40
  · have e1 : decide ((1 : Int) ≤ (l.length : Int) ∧ (l.length : Int) ≤ 40) = true := decide_eq_true (by omega)
    have e2 : decide (l.length ≤ 40) = true := decide_eq_true hlen.2
    rw [e1, e2]
    cases hg : l.all (fun x => good x.f0 x.f1 x.f2)
    · refine ⟨0, 0, false, false, ?_, rfl⟩
      show spec_CommonPlace.j0 (k + 1) l true = _
      rw [spec_CommonPlace.j0, if_pos rfl]
    · have hP : ∀ x ∈ l, x ∈ places := fun x hx => good_in (List.all_eq_true.1 hg x hx)
      obtain ⟨cs, c1, c2, c3⟩ := count_eq l hP (List.replicate 60 0) (by simp) (fun c h0 h1 => by
        have : rd (List.replicate 60 (0 : Int)) c = 0 := by
          unfold rd
          rw [List.getD_eq_getElem?_getD, List.getElem?_replicate, if_pos (by omega)]; rfl
        omega)
      have c4 : ∀ c : Int, 0 ≤ c → c < 60 → rd cs c = ((l.countP fun x => cdI x == c : Nat) : Int) := fun c h0 h1 => by
        rw [c3 c h0 h1]
        have : rd (List.replicate 60 (0 : Int)) c = 0 := by
          unfold rd
          rw [List.getD_eq_getElem?_getD, List.getElem?_replicate, if_pos (by omega)]; rfl
        omega
      obtain ⟨m1, m2⟩ := maxOf_spec (l := cs) (by intro z; rw [z] at c2; simp at c2)
      obtain ⟨q, hq, hqe⟩ := mem_rd m2
      obtain ⟨i, i1, i2, i3, i4, i5⟩ := index_first cs (Lib.maxOf cs) (by omega) cs.length (k + 1) 0 (by omega) (by omega) ⟨q, by omega, hq, hqe⟩
      obtain ⟨most, b0, b1, b2, hI, hso⟩ := outer l hlen.2 57 0 0 0 0 false k (by omega) (by omega) (.inl ⟨rfl, fun i hi => by omega⟩)
      have hx0 : ∃ x, x ∈ l := by
        cases l with
        | nil => simp at hlen
        | cons x xs => exact ⟨x, List.mem_cons_self⟩
      obtain ⟨x0, hx0⟩ := hx0
      obtain ⟨a0, ha0, hae⟩ := mem_at (hP x0 hx0)
      have hoft : 0 < often l x0 := by
        unfold often
        have := List.countP_pos_iff.2 ⟨x0, hx0, eqp_iff.2 rfl⟩
        omega
      rcases hI with ⟨-, h2⟩ | ⟨b, h1, h2, h3, h4, h5, h6, h7, h8⟩
      · have := h2 a0 ha0
        rw [hae] at this
        omega
      · obtain ⟨p, hpe⟩ : ∃ p, p = places.getD b z25 := ⟨_, rfl⟩
        rw [← hpe] at h2 h3 h4 h5
        have hpm : p ∈ places := by rw [hpe]; exact at_mem h1
        obtain ⟨k1, k2, k3, k4⟩ := code_at hpm
        have hcp : rd cs (cdI p) = most := by rw [c4 _ k2 k3, often_code hP hpm, h5]
        have hmax : Lib.maxOf cs ≤ most := by
          rw [← hqe, c4 _ (by omega) (by omega)]
          by_cases hz : (l.countP fun x => cdI x == (q : Int)) = 0
          · rw [hz]; omega
          · obtain ⟨y, hy, hyc⟩ := List.countP_pos_iff.1 (Nat.pos_of_ne_zero hz)
            have hyc := beq_iff_eq.1 hyc
            rw [← hyc, often_code hP (hP y hy)]
            obtain ⟨a, ha, hae2⟩ := mem_at (hP y hy)
            rw [← hae2]
            exact h7 a ha
        have hmm : Lib.maxOf cs = most := Int.le_antisymm hmax (by rw [← hcp]; exact m1 _ (rd_mem k2 (by omega)))
        have hi_le : (i : Int) ≤ cdI p := by
          by_cases z : (i : Int) ≤ cdI p
          · exact z
          · exact absurd (by rw [Int.toNat_of_nonneg k2, hcp, hmm] : rd cs (((cdI p).toNat : Nat) : Int) = Lib.maxOf cs) (i5 (cdI p).toNat (by omega) (by omega))
        have hie : (i : Int) = cdI p := by
          have hri : rd cs (i : Int) = most := by rw [i4, hmm]
          rw [c4 _ (by omega) (by omega)] at hri
          obtain ⟨y, hy, hyc⟩ := List.countP_pos_iff.1 (show 0 < (l.countP fun x => cdI x == (i : Int)) by omega)
          have hyc := beq_iff_eq.1 hyc
          rw [← hyc, often_code hP (hP y hy)] at hri
          obtain ⟨a, ha, hae2⟩ := mem_at (hP y hy)
          have hab : ¬ a < b := fun z => by
            have := h8 a z
            rw [hae2] at this
            omega
          by_cases e : a = b
          · subst e
            rw [← hyc, ← hae2, ← hpe]
          · have := code_lt ha (show b < a by omega)
            rw [hae2, ← hpe] at this
            omega
        refine ⟨p.f0, p.f1, p.f2, true, ?_, ?_⟩
        · show spec_CommonPlace.j0 (k + 1) l ((l.length : Int) == 0) = _
          have hne : ¬ (((l.length : Int) == 0) = true) := by rw [beq_iff_eq]; omega
          rw [spec_CommonPlace.j0, if_neg hne, plAll_eq k (by omega), Option.bind_some, ← h2, ← h3, ← h4]
          exact hso
        · show (impl_CommonPlace.count l (List.replicate 60 0)).bind _ = _
          rw [c1, Option.bind_some]
          unfold slices_Index_int_int.f
          rw [show slices_Index_int_int.l0 (k + 1) cs (Lib.maxOf cs) (cs.length : Int) 0 = some (i : Int) from i3, Option.bind_some, hie, k4]
  · have e1 : decide ((1 : Int) ≤ (l.length : Int) ∧ (l.length : Int) ≤ 40) = false := decide_eq_false (by omega)
    rw [e1]
    refine ⟨0, 0, false, false, ?_, rfl⟩
    by_cases h40 : l.length ≤ 40
    · have h0 : l = [] := List.length_eq_zero_iff.1 (by omega)
      subst h0
      show spec_CommonPlace.j0 (k + 1) [] true = _
      rw [spec_CommonPlace.j0, if_pos rfl]
    · rw [decide_eq_false h40, Bool.and_false]
      show spec_CommonPlace.j0 (k + 1) l true = _
      rw [spec_CommonPlace.j0, if_pos rfl]
theorem wd {x : Int} (h0 : -4611686018427387904 ≤ x) (h1 : x ≤ 4611686018427387904) : wrap64 x = x := by unfold wrap64; omega
theorem band255 (x : Int) : 0 ≤ Go.bits .and .u64 x 255 ∧ Go.bits .and .u64 x 255 ≤ 255 := by
  have h : ((BitVec.ofInt 64 x) &&& (BitVec.ofInt 64 255)).toNat ≤ 255 := by
    rw [BitVec.toNat_and]; exact Nat.and_le_right
  have e : Go.bits .and .u64 x 255 = (((BitVec.ofInt 64 x) &&& (BitVec.ofInt 64 255)).toNat : Int) % 18446744073709551616 := rfl
  omega
theorem rd_byte {l : List Int} (hl : ∀ x ∈ l, (Lit.int .u8 x).wf = true) (i : Int) : 0 ≤ rd l i ∧ rd l i ≤ 255 := by
  unfold rd
  rw [List.getD_eq_getElem?_getD]
  rcases Nat.lt_or_ge i.toNat l.length with h | h
  · rw [List.getElem?_eq_getElem h]
    have := hl _ (List.getElem_mem h)
    have h2 : (decide (IntKind.u8.min ≤ l[i.toNat]) && decide (l[i.toNat] ≤ IntKind.u8.max)) = true := this
    simp only [Bool.and_eq_true, decide_eq_true_eq, show IntKind.u8.min = 0 from rfl, show IntKind.u8.max = 255 from rfl] at h2
    simp only [Option.getD_some]
    omega
  · rw [List.getElem?_eq_none h]; simp
theorem next_some {l : List Int} (hl : ∀ x ∈ l, (Lit.int .u8 x).wf = true) (p s : Int) (h0 : 0 ≤ p) (h1 : p ≤ 1000000000000) : ∃ v t : Int, spec_l1Cur_next.f l p s = some (v, p + 1, t) ∧ 0 ≤ v ∧ v ≤ 255 := by
  have hb := rd_byte hl p
  unfold spec_l1Cur_next.f
  rw [wd (x := p + 1) (by omega) (by omega)]
  split
  · (first | rw [if_pos h0] | skip)
    split
    · exact ⟨_, _, rfl, by rw [wd (by omega) (by omega)]; exact hb.1, by rw [wd (by omega) (by omega)]; exact hb.2⟩
    · refine ⟨_, _, rfl, ?_, ?_⟩
      · have := band255 (IntKind.u64.wrap (IntKind.u64.wrap (IntKind.u64.wrap (s * 6364136223846793005) + IntKind.u64.wrap (wrap64 (rd l p))) + 1442695040888963407) / 1099511627776)
        rw [wd (by omega) (by omega)]; exact this.1
      · have := band255 (IntKind.u64.wrap (IntKind.u64.wrap (IntKind.u64.wrap (s * 6364136223846793005) + IntKind.u64.wrap (wrap64 (rd l p))) + 1442695040888963407) / 1099511627776)
        rw [wd (by omega) (by omega)]; exact this.2
  · split
    · exact ⟨0, _, rfl, by omega, by omega⟩
    · refine ⟨_, _, rfl, ?_, ?_⟩
      · have := band255 (IntKind.u64.wrap (IntKind.u64.wrap (IntKind.u64.wrap (s * 6364136223846793005)) + 1442695040888963407) / 1099511627776)
        rw [wd (by omega) (by omega)]; exact this.1
      · have := band255 (IntKind.u64.wrap (IntKind.u64.wrap (IntKind.u64.wrap (s * 6364136223846793005)) + 1442695040888963407) / 1099511627776)
        rw [wd (by omega) (by omega)]; exact this.2
theorem pick_some {l : List Int} (hl : ∀ x ∈ l, (Lit.int .u8 x).wf = true) (p s a : Int) (h0 : 0 ≤ p) (h1 : p ≤ 900000000000) (ha : 1 ≤ a) : ∃ v q t : Int, spec_l1Cur_pick.f l p s a = some (v, q, t) ∧ 0 ≤ v ∧ v < a ∧ p ≤ q ∧ q ≤ p + 2 := by
  unfold spec_l1Cur_pick.f
  split
  · exact ⟨0, p, s, rfl, by omega, by omega, by omega, by omega⟩
  · obtain ⟨v, t, e, hv0, hv1⟩ := next_some hl p s h0 (by omega)
    rw [e]
    simp only [Option.bind_some]
    split
    · obtain ⟨v2, t2, e2, hw0, hw1⟩ := next_some hl (p + 1) t (by omega) (by omega)
      rw [e2]
      simp only [Option.bind_some]
      rw [if_neg (by omega), wd (x := v * 256) (by omega) (by omega), wd (x := v * 256 + v2) (by omega) (by omega)]
      exact ⟨_, _, _, rfl, Int.tmod_nonneg _ (by omega), Int.tmod_lt_of_pos _ (by omega), by omega, by omega⟩
    · rw [if_neg (by omega)]
      exact ⟨_, _, _, rfl, Int.tmod_nonneg _ (by omega), Int.tmod_lt_of_pos _ (by omega), by omega, by omega⟩
theorem one_some {l : List Int} (hl : ∀ x ∈ l, (Lit.int .u8 x).wf = true) (p s a : Int) (h0 : 0 ≤ p) (h1 : p ≤ 900000000000) (ha : 1 ≤ a) : ∃ (v : Bool) (q t : Int), spec_l1Cur_one.f l p s a = some (v, q, t) ∧ p ≤ q ∧ q ≤ p + 2 := by
  obtain ⟨v, q, t, e, -, -, hq, hq2⟩ := pick_some hl p s a h0 h1 ha
  unfold spec_l1Cur_one.f
  rw [e]
  exact ⟨_, _, _, rfl, hq, hq2⟩
theorem among_some {l : List Int} (hl : ∀ x ∈ l, (Lit.int .u8 x).wf = true) (p s : Int) (m : List Int) (h0 : 0 ≤ p) (h1 : p ≤ 900000000000) (hm : 1 ≤ m.length) : ∃ v q t : Int, spec_l1Cur_among.f l p s m = some (v, q, t) ∧ p ≤ q ∧ q ≤ p + 2 := by
  obtain ⟨v, q, t, e, hv0, hv1, hq, hq2⟩ := pick_some hl p s m.length h0 h1 (by omega)
  unfold spec_l1Cur_among.f
  rw [e]
  simp only [Option.bind_some]
  rw [if_pos hv0, if_pos hv1]
  exact ⟨_, _, _, rfl, hq, hq2⟩
theorem dist_comm (a b : Int) : dist a b = dist b a := by unfold dist mx; split <;> split <;> omega
theorem dist_zero {a b : Int} : dist a b = 0 ↔ a = b := by unfold dist mx; split <;> omega
theorem far_comm (a0 a1 : Int) (a2 : Bool) (b0 b1 : Int) (b2 : Bool) : far b0 b1 b2 a0 a1 a2 = far a0 a1 a2 b0 b1 b2 := by
  unfold far
  rw [dist_comm b1 a1, dist_comm b0 a0]
  by_cases h : a2 = b2
  · subst h
    by_cases z0 : a0 = 0 <;> by_cases z1 : b0 = 0 <;> simp [z0, z1]
  · have h' : ¬ b2 = a2 := fun e => h e.symm
    by_cases z0 : a0 = 0 <;> by_cases z1 : b0 = 0 <;> simp [z0, z1, h, h']
theorem far_zero (a0 a1 : Int) (a2 : Bool) (b0 b1 : Int) (b2 : Bool) : (far a0 a1 a2 b0 b1 b2 == 0) = (a0 == b0 && (a1 == b1 && (a2 == b2))) := by
  have d1 := dist_nonneg a1 b1
  have d0 := dist_nonneg a0 b0
  have e1 := @dist_zero a1 b1
  have e0 := @dist_zero a0 b0
  rw [Bool.eq_iff_iff]
  simp only [beq_iff_eq, Bool.and_eq_true]
  unfold far
  generalize dist a1 b1 = x at *
  generalize dist a0 b0 = y at *
  constructor
  · intro hf
    have h2 : a2 = b2 := by
      by_cases h : a2 = b2
      · exact h
      · rw [if_neg h] at hf; split at hf <;> omega
    rw [if_pos h2] at hf
    split at hf
    · exact ⟨e0.1 (by omega), e1.1 (by omega), h2⟩
    · omega
  · rintro ⟨rfl, rfl, rfl⟩
    rw [if_pos rfl, if_pos rfl]
    have := e0.2 rfl
    have := e1.2 rfl
    omega
theorem pd_good {a0 a1 : Int} {a2 : Bool} {b0 b1 : Int} {b2 : Bool} (ha : good a0 a1 a2 = true) (hb : good b0 b1 b2 = true) : impl_PlaceDistance.f a0 a1 a2 b0 b1 b2 = some (far a0 a1 a2 b0 b1 b2, true) := by
  unfold impl_PlaceDistance.f
  rw [good_impl, ha, good_impl, hb, far_impl ha hb]; rfl
theorem pd_bad {a0 a1 : Int} {a2 : Bool} {b0 b1 : Int} {b2 : Bool} (h : (good a0 a1 a2 && good b0 b1 b2) = false) : impl_PlaceDistance.f a0 a1 a2 b0 b1 b2 = some (0, false) := by
  unfold impl_PlaceDistance.f
  rw [good_impl, good_impl]
  cases ha : good a0 a1 a2
  · rfl
  · rw [ha, Bool.true_and] at h; rw [h]; rfl
theorem pds_good {a0 a1 : Int} {a2 : Bool} {b0 b1 : Int} {b2 : Bool} (ha : good a0 a1 a2 = true) (hb : good b0 b1 b2 = true) : spec_PlaceDistance.f a0 a1 a2 b0 b1 b2 = some (far a0 a1 a2 b0 b1 b2, true) := by
  unfold spec_PlaceDistance.f
  rw [good_spec, ha, good_spec, hb, far_spec ha hb]; rfl
theorem pds_bad {a0 a1 : Int} {a2 : Bool} {b0 b1 : Int} {b2 : Bool} (h : (good a0 a1 a2 && good b0 b1 b2) = false) : spec_PlaceDistance.f a0 a1 a2 b0 b1 b2 = some (0, false) := by
  unfold spec_PlaceDistance.f
  rw [good_spec, good_spec]
  cases ha : good a0 a1 a2
  · rfl
  · rw [ha, Bool.true_and] at h; rw [h]; rfl
/-- A way of steps of one, over places that are good. -/
def steps : S25 → List S25 → Bool
  | _, [] => true
  | p, q :: r => good q.f0 q.f1 q.f2 && ((far p.f0 p.f1 p.f2 q.f0 q.f1 q.f2 == 1) && steps q r)
/-- Where a way ends. -/
def lastOf : S25 → List S25 → S25
  | p, [] => p
  | _, q :: r => lastOf q r
theorem dist_self (a : Int) : dist a a = 0 := dist_zero.2 rfl
theorem way_steps (b0 b1 : Int) (b2 : Bool) (hb : good b0 b1 b2 = true) : ∀ (n : Nat) (a0 a1 : Int) (a2 : Bool) (acc : List S25), good a0 a1 a2 = true → (a0 = 0 ↔ b0 = 0) →
    (a0 - b0).natAbs + (a1 - b1).natAbs + (if a2 = b2 then 0 else 1) = n → acc.length + n ≤ 100000 →
    ∃ ext : List S25, ext.length = n ∧ steps ⟨a0, a1, a2⟩ ext = true ∧ lastOf ⟨a0, a1, a2⟩ ext = ⟨b0, b1, b2⟩ ∧ ∀ k, n < k → spec_WayOfPlaces.l0 k acc a0 a1 a2 b0 b1 b2 = some (acc ++ ext, true) := by
  obtain ⟨⟨q1, q2⟩, ⟨q3, q4⟩, q5⟩ := good_iff.1 hb
  intro n
  induction n with
  | zero =>
    intro a0 a1 a2 acc ha hz hn hl
    have e2 : a2 = b2 := by
      by_cases h : a2 = b2
      · exact h
      · rw [if_neg h] at hn; omega
    rw [if_pos e2] at hn
    have e0 : a0 = b0 := by omega
    have e1 : a1 = b1 := by omega
    subst e0 e1 e2
    refine ⟨[], rfl, rfl, rfl, fun k hk => ?_⟩
    obtain ⟨k, rfl⟩ : ∃ q, k = q + 1 := ⟨k - 1, by omega⟩
    simp [spec_WayOfPlaces.l0]
  | succ n ih =>
    intro a0 a1 a2 acc ha hz hn hl
    obtain ⟨⟨p1, p2⟩, ⟨p3, p4⟩, p5⟩ := good_iff.1 ha
    have hc : (!(a0 == b0) || (!(a1 == b1) || (!(a2 == b2)))) = true := by
      by_cases e0 : a0 = b0
      · by_cases e1 : a1 = b1
        · by_cases e2 : a2 = b2
          · subst e0 e1 e2; simp at hn
          · simp [e2]
        · simp [e1]
      · simp [e0]
    by_cases e1 : a1 = b1
    · by_cases e0 : a0 = b0
      · have e2 : a2 ≠ b2 := by
          intro h; subst e0 e1 h; simp at hn
        rw [if_neg e2] at hn
        have hg : good a0 a1 b2 = true := by rw [e0, e1]; exact hb
        obtain ⟨ext, x1, x2, x3, x4⟩ := ih a0 a1 b2 (acc ++ [⟨a0, a1, b2⟩]) hg hz (by rw [if_pos rfl]; omega) (by rw [List.length_append]; simp; omega)
        refine ⟨⟨a0, a1, b2⟩ :: ext, by rw [List.length_cons, x1], ?_, x3, fun k hk => ?_⟩
        · have hf : far a0 a1 a2 a0 a1 b2 = 1 := by
            unfold far; rw [dist_self, dist_self, if_neg e2, if_pos rfl]; rfl
          show (good a0 a1 b2 && ((far a0 a1 a2 a0 a1 b2 == 1) && steps ⟨a0, a1, b2⟩ ext)) = true
          rw [hg, hf, x2]; rfl
        · obtain ⟨k, rfl⟩ : ∃ q, k = q + 1 := ⟨k - 1, by omega⟩
          simp only [spec_WayOfPlaces.l0]
          rw [if_pos hc, if_pos e1, if_pos e0, if_pos (by omega), x4 k (by omega), List.append_assoc]; rfl
      · obtain ⟨s, hs⟩ : ∃ s : Int, s = if a0 < b0 then 1 else -1 := ⟨_, rfl⟩
        have hs2 : 1 ≤ a0 ∧ 1 ≤ b0 ∧ 1 ≤ a0 + s ∧ a0 + s ≤ 9 ∧ (a0 - b0).natAbs = (a0 + s - b0).natAbs + 1 ∧ (s = 1 ∨ s = -1) := by
          by_cases h : a0 < b0
          · rw [if_pos h] at hs; omega
          · rw [if_neg h] at hs; omega
        obtain ⟨s1, s2, s3, s4, s5, s6⟩ := hs2
        have hg : good (a0 + s) a1 a2 = true := good_iff.2 ⟨⟨by omega, by omega⟩, ⟨p3, p4⟩, .inl (by omega)⟩
        obtain ⟨ext, x1, x2, x3, x4⟩ := ih (a0 + s) a1 a2 (acc ++ [⟨a0 + s, a1, a2⟩]) hg (by omega) (by omega) (by rw [List.length_append]; simp; omega)
        refine ⟨⟨a0 + s, a1, a2⟩ :: ext, by rw [List.length_cons, x1], ?_, x3, fun k hk => ?_⟩
        · have hf : far a0 a1 a2 (a0 + s) a1 a2 = 1 := by
            have hd : dist a0 (a0 + s) = 1 := by
              unfold dist mx; split <;> omega
            have hzz : (a0 = 0) = (a0 + s = 0) := propext ⟨fun h => by omega, fun h => by omega⟩
            unfold far; rw [dist_self, if_pos rfl, if_pos hzz, hd]; rfl
          show (good (a0 + s) a1 a2 && ((far a0 a1 a2 (a0 + s) a1 a2 == 1) && steps ⟨a0 + s, a1, a2⟩ ext)) = true
          rw [hg, hf, x2]; rfl
        · obtain ⟨k, rfl⟩ : ∃ q, k = q + 1 := ⟨k - 1, by omega⟩
          simp only [spec_WayOfPlaces.l0]
          rw [if_pos hc, if_pos e1, if_neg e0, sign_spec a0 b0 (by omega) (by omega) (by omega) (by omega) e0, ← hs]
          simp only [Option.bind_some]
          rw [if_pos (by omega), wz (x := a0 + s) (by omega) (by omega), x4 k (by omega), List.append_assoc]; rfl
    · obtain ⟨s, hs⟩ : ∃ s : Int, s = if a1 < b1 then 1 else -1 := ⟨_, rfl⟩
      have hs2 : -1 ≤ a1 + s ∧ a1 + s ≤ 1 ∧ (a1 - b1).natAbs = (a1 + s - b1).natAbs + 1 ∧ (s = 1 ∨ s = -1) := by
        by_cases h : a1 < b1
        · rw [if_pos h] at hs; omega
        · rw [if_neg h] at hs; omega
      obtain ⟨s1, s2, s3, s4⟩ := hs2
      have hg : good a0 (a1 + s) a2 = true := good_iff.2 ⟨⟨p1, p2⟩, ⟨s1, s2⟩, p5⟩
      obtain ⟨ext, x1, x2, x3, x4⟩ := ih a0 (a1 + s) a2 (acc ++ [⟨a0, a1 + s, a2⟩]) hg hz (by omega) (by rw [List.length_append]; simp; omega)
      refine ⟨⟨a0, a1 + s, a2⟩ :: ext, by rw [List.length_cons, x1], ?_, x3, fun k hk => ?_⟩
      · have hf : far a0 a1 a2 a0 (a1 + s) a2 = 1 := by
          have hd : dist a1 (a1 + s) = 1 := by
            unfold dist mx; split <;> omega
          unfold far; rw [dist_self, if_pos rfl, if_pos rfl, hd]; rfl
        show (good a0 (a1 + s) a2 && ((far a0 a1 a2 a0 (a1 + s) a2 == 1) && steps ⟨a0, a1 + s, a2⟩ ext)) = true
        rw [hg, hf, x2]; rfl
      · obtain ⟨k, rfl⟩ : ∃ q, k = q + 1 := ⟨k - 1, by omega⟩
        simp only [spec_WayOfPlaces.l0]
        rw [if_pos hc, if_neg e1, sign_spec a1 b1 (by omega) (by omega) (by omega) (by omega) e1, ← hs]
        simp only [Option.bind_some]
        rw [if_pos (by omega), wz (x := a1 + s) (by omega) (by omega), x4 k (by omega), List.append_assoc]; rfl
/-- The way between two good places of one kind: it begins at the one, ends at the other, has steps of one and as many as they are far. -/
theorem way_good {a0 a1 : Int} {a2 : Bool} {b0 b1 : Int} {b2 : Bool} (ha : good a0 a1 a2 = true) (hb : good b0 b1 b2 = true) (hz : a0 = 0 ↔ b0 = 0) :
    ∃ ext : List S25, (ext.length : Int) = far a0 a1 a2 b0 b1 b2 ∧ ext.length ≤ 99 ∧ steps ⟨a0, a1, a2⟩ ext = true ∧ lastOf ⟨a0, a1, a2⟩ ext = ⟨b0, b1, b2⟩ ∧ ∀ k, 300 ≤ k → spec_WayOfPlaces.f k a0 a1 a2 b0 b1 b2 = some (⟨a0, a1, a2⟩ :: ext, true) := by
  obtain ⟨⟨p1, p2⟩, ⟨p3, p4⟩, _⟩ := good_iff.1 ha
  obtain ⟨⟨q1, q2⟩, ⟨q3, q4⟩, _⟩ := good_iff.1 hb
  have hm : (a0 - b0).natAbs + (a1 - b1).natAbs + (if a2 = b2 then 0 else 1) ≤ 20 := by split <;> omega
  obtain ⟨ext, x1, x2, x3, x4⟩ := way_steps b0 b1 b2 hb _ a0 a1 a2 [⟨a0, a1, a2⟩] ha hz rfl (by simp; omega)
  refine ⟨ext, ?_, by omega, x2, x3, fun k hk => ?_⟩
  · rw [x1]
    have hzz : (a0 = 0) = (b0 = 0) := propext hz
    have hd0 : dist a0 b0 = ((a0 - b0).natAbs : Int) := by unfold dist mx; split <;> omega
    have hd1 : dist a1 b1 = ((a1 - b1).natAbs : Int) := by unfold dist mx; split <;> omega
    unfold far; rw [if_pos hzz, hd0, hd1]
    by_cases h : a2 = b2
    · rw [if_pos h, if_pos h]; omega
    · rw [if_neg h, if_neg h]; omega
  · obtain ⟨k, rfl⟩ : ∃ q, k = q + 1 := ⟨k - 1, by omega⟩
    have hzb : ((a0 == 0) != (b0 == 0)) = false := by
      by_cases h : a0 = 0
      · have := hz.1 h; subst h; subst this; rfl
      · have : ¬ b0 = 0 := fun e => h (hz.2 e)
        rw [beq_eq_false_iff_ne.2 h, beq_eq_false_iff_ne.2 this]; rfl
    unfold spec_WayOfPlaces.f; rw [good_spec, ha, good_spec, hb, hzb]
    simp only [Option.bind_some, if_true, spec_WayOfPlaces.j0, Bool.false_eq_true, if_false]
    exact x4 k (by omega)
theorem way_bad {a0 a1 : Int} {a2 : Bool} {b0 b1 : Int} {b2 : Bool} (h : ¬ (good a0 a1 a2 = true ∧ good b0 b1 b2 = true ∧ (a0 = 0 ↔ b0 = 0))) (k : Nat) : spec_WayOfPlaces.f (k + 1) a0 a1 a2 b0 b1 b2 = some ([], false) := by
  unfold spec_WayOfPlaces.f; rw [good_spec, good_spec]
  simp only [Option.bind_some]
  cases ha : good a0 a1 a2
  · rfl
  · cases hb : good b0 b1 b2
    · rfl
    · have hz : ((a0 == 0) != (b0 == 0)) = true := by
        by_cases z0 : a0 = 0 <;> by_cases z1 : b0 = 0
        · exact absurd ⟨ha, hb, by simp [z0, z1]⟩ h
        · simp [z0, z1]
        · simp [z0, z1]
        · exact absurd ⟨ha, hb, by simp [z0, z1]⟩ h
      rw [hz]; rfl
theorem wy {x : Int} (h0 : -4611686018427387904 ≤ x) (h1 : x ≤ 4611686018427387904) : wrap64 x = x := by unfold wrap64; omega
theorem steps_l0 (n : Int) (x19 x21 : List S25) (x23 : Bool) (p0 p1 : Int) (p2 : Bool) (c0 c1 : Int) (c2 : Bool) : ∀ (rest pre : List S25) (p : S25) (k : Nat), good p.f0 p.f1 p.f2 = true → steps p rest = true → pre.length + rest.length ≤ 1000 →
    laws_FnPlaceWays.l0 (k + rest.length + 1) (pre ++ p :: rest) n x19 x21 x23 ((pre.length : Int) + 1) p0 p1 p2 c0 c1 c2 = laws_FnPlaceWays.j4 k n x19 x21 x23 p0 p1 p2 c0 c1 c2 := by
  intro rest
  induction rest with
  | nil =>
    intro pre p k hp hs hl
    simp only [laws_FnPlaceWays.l0, List.length_nil, Nat.add_zero]
    rw [if_neg (by rw [List.length_append]; simp)]
  | cons q r ih =>
    intro pre p k hp hs hl
    rw [List.length_cons] at hl
    have hs' : (good q.f0 q.f1 q.f2 && ((far p.f0 p.f1 p.f2 q.f0 q.f1 q.f2 == 1) && steps q r)) = true := hs
    rw [Bool.and_eq_true, Bool.and_eq_true] at hs'
    obtain ⟨hq, hf, hr⟩ := hs'
    have hf := beq_iff_eq.1 hf
    have e0 : wrap64 ((pre.length : Int) + 1 - 1) = (pre.length : Int) := by rw [wy (by omega) (by omega)]; omega
    have e1 : rd_T25 (pre ++ p :: q :: r) (pre.length : Int) = p := rdP pre p (q :: r)
    have e2 : rd_T25 (pre ++ p :: q :: r) ((pre.length : Int) + 1) = q := by
      have h := rdP (pre ++ [p]) q r
      rw [List.append_assoc] at h
      rw [show ((pre.length : Int) + 1) = ((pre ++ [p]).length : Int) from by simp]
      exact h
    have hlen : ((pre ++ p :: q :: r).length : Int) = (pre.length : Int) + r.length + 2 := by rw [List.length_append, List.length_cons, List.length_cons]; omega
    have h := ih (pre ++ [p]) q k hq hr (by rw [List.length_append]; simp; omega)
    rw [List.append_assoc] at h
    obtain ⟨m, hm⟩ : ∃ m, m = k + r.length + 1 := ⟨_, rfl⟩
    rw [← hm] at h
    rw [List.length_cons, show k + (r.length + 1) + 1 = m + 1 from by omega]
    simp only [laws_FnPlaceWays.l0]
    rw [hlen, e0, e1, e2, if_pos (by omega), if_pos (by omega), if_pos (by omega), if_pos (by omega), pd_good hp hq, hf]
    simp only [Option.bind_some, if_true]
    rw [show wrap64 ((pre.length : Int) + 1 + 1) = ((pre ++ [p]).length : Int) + 1 from by rw [wy (by omega) (by omega)]; simp]
    exact h
/-- A place's number, as the specification counts. -/
def cdS (x : S25) : Int := 6 * x.f0 + 2 * (x.f1 + 1) + (if x.f2 then 1 else 0)
theorem pc_good {x : S25} (h : good x.f0 x.f1 x.f2 = true) : spec_PlaceCode.f x.f0 x.f1 x.f2 = some (cdS x, true) := by
  obtain ⟨⟨p1, p2⟩, ⟨p3, p4⟩, _⟩ := good_iff.1 h
  unfold spec_PlaceCode.f spec_plCode.f cdS
  rw [good_spec, h]
  simp only [Option.bind_some, if_true]
  rw [wy (x := 6 * x.f0) (by omega) (by omega), wy (x := x.f1 + 1) (by omega) (by omega), wy (x := 2 * (x.f1 + 1)) (by omega) (by omega), wy (x := 6 * x.f0 + 2 * (x.f1 + 1)) (by omega) (by omega), wy (x := 6 * x.f0 + 2 * (x.f1 + 1) + 1) (by omega) (by omega)]
  cases x.f2
  · simp
  · simp
theorem places_up : places.Pairwise (fun x y => cdS x < cdS y) := by
  have h : (places.all fun x => decide (0 ≤ cdS x)) = true := by decide +kernel
  decide +kernel
theorem places_pos : (places.all fun x => decide (0 ≤ cdS x)) = true := by decide +kernel
theorem near_l1 (n : Int) (x21 : List S25) (x23 : Bool) (p0 p1 : Int) (p2 : Bool) (hp : good p0 p1 p2 = true) (c0 c1 : Int) (c2 : Bool) (L : List S25) (hL : L.length ≤ 1000) : ∀ (rest pre : List S25) (last : Int) (k : Nat), pre ++ rest = L →
    (∀ q ∈ rest, good q.f0 q.f1 q.f2 = true ∧ far p0 p1 p2 q.f0 q.f1 q.f2 ≤ n ∧ last < cdS q) → rest.Pairwise (fun x y => cdS x < cdS y) →
    laws_FnPlaceWays.l1 (k + rest.length + 1) n x21 x23 last L (L.length : Int) (pre.length : Int) p0 p1 p2 c0 c1 c2 = if x23 = true then laws_FnPlaceWays.l2 k 0 x21 (x21.length : Int) 0 c0 c1 c2 else some true := by
  intro rest
  induction rest with
  | nil =>
    intro pre last k h hq hw
    simp only [laws_FnPlaceWays.l1, List.length_nil, Nat.add_zero]
    rw [if_neg (by rw [← h]; simp)]
  | cons q r ih =>
    intro pre last k h hq hw
    obtain ⟨g1, g2, g3⟩ := hq q List.mem_cons_self
    obtain ⟨w1, w2⟩ := List.pairwise_cons.1 hw
    have hl : pre.length < L.length := by rw [← h]; simp
    have e1 : rd_T25 L (pre.length : Int) = q := by rw [← h]; exact rdP pre q r
    have hh := ih (pre ++ [q]) (cdS q) k (by rw [← h, List.append_assoc]; rfl) (fun y hy => ⟨(hq y (List.mem_cons_of_mem _ hy)).1, (hq y (List.mem_cons_of_mem _ hy)).2.1, w1 y hy⟩) w2
    obtain ⟨m, hm⟩ : ∃ m, m = k + r.length + 1 := ⟨_, rfl⟩
    rw [← hm] at hh
    rw [List.length_cons, show k + (r.length + 1) + 1 = m + 1 from by omega]
    simp only [laws_FnPlaceWays.l1]
    rw [if_pos (by omega), if_pos (by omega), if_pos (by omega), e1, pd_good hp g1, pc_good g1]
    simp only [Option.bind_some, if_true]
    rw [if_neg (by omega), if_neg (by omega), stepP pre q (by omega)]
    exact hh
theorem count_l2 (c0 c1 : Int) (c2 : Bool) (L : List S25) (hL : L.length ≤ 1000) : ∀ (rest pre : List S25) (cnt : Int) (k : Nat), pre ++ rest = L → 0 ≤ cnt → cnt + rest.length ≤ 2000 → rest.length < k →
    laws_FnPlaceWays.l2 k cnt L (L.length : Int) (pre.length : Int) c0 c1 c2 = some (decide (cnt + (rest.countP (eqp ⟨c0, c1, c2⟩) : Nat) > 0)) := by
  intro rest
  induction rest with
  | nil =>
    intro pre cnt k h h0 h1 hk
    obtain ⟨k, rfl⟩ : ∃ q, k = q + 1 := ⟨k - 1, by omega⟩
    simp only [laws_FnPlaceWays.l2]
    rw [if_neg (by rw [← h]; simp)]; simp
  | cons q r ih =>
    intro pre cnt k h h0 h1 hk
    obtain ⟨k, rfl⟩ : ∃ q, k = q + 1 := ⟨k - 1, by omega⟩
    rw [List.length_cons] at h1 hk
    have hl : pre.length < L.length := by rw [← h]; simp
    have e1 : rd_T25 L (pre.length : Int) = q := by rw [← h]; exact rdP pre q r
    simp only [laws_FnPlaceWays.l2]
    rw [if_pos (by omega), if_pos (by omega), if_pos (by omega), e1, stepP pre q (by omega), wy (x := cnt + 1) (by omega) (by omega), List.countP_cons]
    have hh := fun c hc1 hc2 => ih (pre ++ [q]) c k (by rw [← h, List.append_assoc]; rfl) hc1 hc2 (by omega)
    rw [hh (cnt + 1) (by omega) (by omega), hh cnt h0 (by omega)]
    by_cases he : eqp ⟨c0, c1, c2⟩ q = true
    · rw [if_pos (show (q.f0 == c0 && (q.f1 == c1 && (q.f2 == c2))) = true from he), if_pos he]
      congr 2; apply propext; omega
    · rw [if_neg (show ¬ (q.f0 == c0 && (q.f1 == c1 && (q.f2 == c2))) = true from he), if_neg he]
      simp only [Nat.add_zero]
theorem qP_l0 (l : List S25) (hn : l.length ≤ 1000) : ∀ (d k i : Nat), i + d = l.length → d < k → laws_qPlaces.l0 k l l (l.length : Int) (i : Int) = some true := by
  intro d
  induction d with
  | zero =>
    intro k i hi hk
    obtain ⟨k, rfl⟩ : ∃ q, k = q + 1 := ⟨k - 1, by omega⟩
    simp only [laws_qPlaces.l0]
    rw [if_neg (by omega)]
  | succ d ih =>
    intro k i hi hk
    obtain ⟨k, rfl⟩ : ∃ q, k = q + 1 := ⟨k - 1, by omega⟩
    simp only [laws_qPlaces.l0]
    rw [if_pos (by omega), if_pos (by omega), if_pos (by omega)]
    rw [show wrap64 ((i : Int) + 1) = ((i + 1 : Nat) : Int) from by rw [wy (by omega) (by omega)]; rfl, ih k (i + 1) (by omega) (by omega)]
    simp; omega
theorem qP_self (l : List S25) (k : Nat) (hn : l.length ≤ 1000) (hk : l.length < k) : laws_qPlaces.f k l l = some true := by
  unfold laws_qPlaces.f
  rw [if_pos rfl]
  exact qP_l0 l hn l.length k 0 (by omega) hk
/-- The most common place lies in the list. -/
theorem common_in (l : List S25) (k : Nat) (hn : l.length ≤ 1048576) (hk : l.length + 5000 < k) {r1 r2 : Int} {r3 : Bool} (h : spec_CommonPlace.f k l = some (r1, r2, r3, true)) : 0 < l.countP (eqp ⟨r1, r2, r3⟩) := by
  have hs : spec_plList.f k l = some (l.all (fun x => good x.f0 x.f1 x.f2) && decide (l.length ≤ 40)) := list_l0 l hn l.length k 0 (by omega) (by omega)
  obtain ⟨k, rfl⟩ : ∃ q, k = q + 1 := ⟨k - 1, by omega⟩
  have h' := h
  unfold spec_CommonPlace.f at h'
  rw [hs, Option.bind_some] at h'
  cases hg : l.all (fun x => good x.f0 x.f1 x.f2)
  · rw [hg, Bool.false_and] at h'
    simp [spec_CommonPlace.j0] at h'
  · by_cases hlen : l.length ≤ 40
    · by_cases hz : l.length = 0
      · have : l = [] := List.length_eq_zero_iff.1 hz
        subst this
        simp [spec_CommonPlace.j0] at h'
      · have hP : ∀ x ∈ l, x ∈ places := fun x hx => good_in (List.all_eq_true.1 hg x hx)
        obtain ⟨most, b0, b1, b2, hI, hso⟩ := outer l hlen 57 0 0 0 0 false k (by omega) (by omega) (.inl ⟨rfl, fun i hi => by omega⟩)
        obtain ⟨x0, hx0⟩ : ∃ x, x ∈ l := by
          cases l with
          | nil => simp at hz
          | cons x xs => exact ⟨x, List.mem_cons_self⟩
        obtain ⟨a0, ha0, hae⟩ := mem_at (hP x0 hx0)
        have hoft : 0 < often l x0 := by
          unfold often
          have := List.countP_pos_iff.2 ⟨x0, hx0, eqp_iff.2 rfl⟩
          omega
        have hval : spec_CommonPlace.f (k + 1) l = some (b0, b1, b2, true) := by
          unfold spec_CommonPlace.f
          rw [hs, hg, decide_eq_true hlen, Option.bind_some]
          simp only [Bool.and_self, if_true]
          rw [spec_CommonPlace.j0]
          rw [if_neg (show ¬ (((l.length : Int) == 0) = true) by rw [beq_iff_eq]; omega), plAll_eq k (by omega), Option.bind_some]
          exact hso
        rw [hval] at h
        injection h with h
        injection h with h1 h
        injection h with h2 h
        injection h with h3 h
        subst h1 h2 h3
        rcases hI with ⟨-, h2⟩ | ⟨b, h1, h2, h3, h4, h5, h6, -⟩
        · have := h2 a0 ha0
          rw [hae] at this
          omega
        · rw [h2, h3, h4]
          have : often l (places.getD b z25) = ((l.countP (eqp ⟨(places.getD b z25).f0, (places.getD b z25).f1, (places.getD b z25).f2⟩) : Nat) : Int) := rfl
          omega
    · rw [hg, decide_eq_false hlen] at h'
      simp [spec_CommonPlace.j0] at h'
theorem place_some {l : List Int} (hl : ∀ x ∈ l, (Lit.int .u8 x).wf = true) (p s : Int) (h0 : 0 ≤ p) (h1 : p ≤ 900000000000) (k : Nat) (hk : 200 ≤ k) : ∃ (v0 v1 : Int) (v2 : Bool) (q t : Int), spec_l1Cur_place.f k l p s = some (v0, v1, v2, q, t) ∧ p ≤ q ∧ q ≤ p + 2 := by
  unfold spec_l1Cur_place.f
  rw [plAll_eq k hk, Option.bind_some, places_length]
  obtain ⟨v, q, t, e, hv0, hv1, hq, hq2⟩ := pick_some hl p s ((57 : Nat) : Int) h0 h1 (by omega)
  rw [e, Option.bind_some]
  simp only
  rw [if_pos hv0, if_pos hv1]
  exact ⟨_, _, _, _, _, rfl, hq, hq2⟩
theorem anyPlace_some {l : List Int} (hl : ∀ x ∈ l, (Lit.int .u8 x).wf = true) (p s : Int) (h0 : 0 ≤ p) (h1 : p ≤ 800000000000) (k : Nat) (hk : 200 ≤ k) : ∃ (v0 v1 : Int) (v2 : Bool) (q t : Int), spec_l1Cur_anyPlace.f k l p s = some (v0, v1, v2, q, t) ∧ p ≤ q ∧ q ≤ p + 6 := by
  unfold spec_l1Cur_anyPlace.f
  obtain ⟨v0, v1, v2, q, t, e, hq, hq2⟩ := place_some hl p s h0 (by omega) k hk
  rw [e, Option.bind_some]
  obtain ⟨u, q', t', e', -, -, hq', hq2'⟩ := pick_some hl q t 30 (by omega) (by omega) (by omega)
  simp only
  rw [e', Option.bind_some]
  simp only
  by_cases c0 : u = 0
  · rw [if_pos c0]
    obtain ⟨z, q3, t3, e3, h3, h4⟩ := among_some hl q' t' [(-1), 10, (-9223372036854775808)] (by omega) (by omega) (by simp)
    rw [e3, Option.bind_some]
    exact ⟨_, _, _, _, _, rfl, by simp only; omega, by simp only; omega⟩
  · rw [if_neg c0]
    by_cases c1 : u = 1
    · rw [if_pos c1]
      obtain ⟨z, q3, t3, e3, h3, h4⟩ := among_some hl q' t' [(-2), 2, 9223372036854775807] (by omega) (by omega) (by simp)
      rw [e3, Option.bind_some]
      exact ⟨_, _, _, _, _, rfl, by simp only; omega, by simp only; omega⟩
    · rw [if_neg c1]
      by_cases c2 : u = 2
      · rw [if_pos c2]
        exact ⟨_, _, _, _, _, rfl, by omega, by omega⟩
      · rw [if_neg c2]
        exact ⟨_, _, _, _, _, rfl, by omega, by omega⟩
theorem drawWay_some {l : List Int} (hl : ∀ x ∈ l, (Lit.int .u8 x).wf = true) (k : Nat) (hk : 200 ≤ k) : ∃ (a0 a1 : Int) (a2 : Bool) (b0 b1 : Int) (b2 : Bool), spec_DrawWayOfPlaces.f k l = some (a0, a1, a2, b0, b1, b2) := by
  unfold spec_DrawWayOfPlaces.f spec_DrawPlaceDistance.f
  obtain ⟨v0, v1, v2, q, t, e, hq, hq2⟩ := anyPlace_some hl 0 0 (by omega) (by omega) k hk
  obtain ⟨u0, u1, u2, q', t', e', -, -⟩ := anyPlace_some hl q t (by omega) (by omega) k hk
  rw [e, Option.bind_some]
  simp only
  rw [e', Option.bind_some, Option.bind_some]
  exact ⟨_, _, _, _, _, _, rfl⟩
theorem drawWithin_some {l : List Int} (hl : ∀ x ∈ l, (Lit.int .u8 x).wf = true) (k : Nat) (hk : 200 ≤ k) : ∃ (a0 a1 : Int) (a2 : Bool) (n : Int), spec_DrawPlacesWithin.f k l = some (a0, a1, a2, n) := by
  unfold spec_DrawPlacesWithin.f
  obtain ⟨v0, v1, v2, q, t, e, hq, hq2⟩ := anyPlace_some hl 0 0 (by omega) (by omega) k hk
  rw [e, Option.bind_some]
  simp only
  obtain ⟨z, q3, t3, e3, h3, h4⟩ := among_some hl q t [4, (-1), 6] (by omega) (by omega) (by simp)
  rw [e3, Option.bind_some]
  simp only
  obtain ⟨z', q4, t4, e4, h5, h6⟩ := among_some hl q3 t3 [0, 1, 2, 3, 5, z] (by omega) (by omega) (by simp)
  rw [e4, Option.bind_some]
  exact ⟨_, _, _, _, rfl⟩
theorem common_j3 {l : List Int} (hl : ∀ x ∈ l, (Lit.int .u8 x).wf = true) (acc : List S25) (b : Bool) (p s : Int) (h0 : 0 ≤ p) (h1 : p ≤ 700000000000) (k : Nat) (hk : 201 ≤ k) (hb : b = true → 1 ≤ acc.length) : ∃ L, spec_DrawCommonPlace.j3 k acc (acc.length : Int) b l p s = some L ∧ L.length = acc.length := by
  obtain ⟨k, rfl⟩ : ∃ q, k = q + 1 := ⟨k - 1, by omega⟩
  simp only [spec_DrawCommonPlace.j3]
  cases b
  · rw [if_neg Bool.false_ne_true]
    exact ⟨_, rfl, rfl⟩
  · rw [if_pos rfl]
    have := hb rfl
    obtain ⟨v, q, t, e, hv0, hv1, hq, hq2⟩ := pick_some hl p s (acc.length : Int) h0 (by omega) (by omega)
    rw [e, Option.bind_some]
    simp only
    obtain ⟨v0, v1, v2, q', t', e', -, -⟩ := anyPlace_some hl q t (by omega) (by omega) k (by omega)
    rw [e', Option.bind_some]
    simp only
    rw [if_pos hv0, if_pos hv1]
    exact ⟨_, rfl, by rw [List.length_set]⟩
theorem common_l0 {l : List Int} (hl : ∀ x ∈ l, (Lit.int .u8 x).wf = true) (n : Nat) (hn : n ≤ 100) : ∀ (d : Nat) (acc : List S25) (p s : Int) (k : Nat), acc.length + d = n → 0 ≤ p → p + 4 * d ≤ 1000000 → 2 * d + 300 ≤ k →
    ∃ L, spec_DrawCommonPlace.l0 k acc (n : Int) l p s = some L ∧ L.length = n := by
  intro d
  induction d with
  | zero =>
    intro acc p s k hd h0 h1 hk
    obtain ⟨k, rfl⟩ : ∃ q, k = q + 1 := ⟨k - 1, by omega⟩
    have hacc : acc.length = n := by omega
    simp only [spec_DrawCommonPlace.l0]
    rw [if_neg (by omega)]
    by_cases hz : (n : Int) > 0
    · rw [if_pos hz]
      obtain ⟨v, q, t, e, hq, hq2⟩ := one_some hl p s 20 h0 (by omega) (by omega)
      rw [e, Option.bind_some]
      simp only
      have h := common_j3 hl acc v q t (by omega) (by omega) k (by omega) (fun _ => by omega)
      rw [hacc] at h
      exact h
    · rw [if_neg hz]
      have h := common_j3 hl acc false p s h0 (by omega) k (by omega) (fun h => by cases h)
      rw [hacc] at h
      exact h
  | succ d ih =>
    intro acc p s k hd h0 h1 hk
    obtain ⟨k, rfl⟩ : ∃ q, k = (q + 1) + 1 := ⟨k - 2, by omega⟩
    have hj : ∀ (b : Bool) (q t : Int), p ≤ q → q ≤ p + 2 → (b = true → 1 ≤ acc.length) → ∃ L, spec_DrawCommonPlace.j2 (k + 1) acc (n : Int) (acc.length : Int) b l q t = some L ∧ L.length = n := by
      intro b q t hq hq2 hb
      simp only [spec_DrawCommonPlace.j2]
      cases b
      · rw [if_neg Bool.false_ne_true]
        obtain ⟨v0, v1, v2, q', t', e', h3, h4⟩ := place_some hl q t (by omega) (by omega) k (by omega)
        rw [e', Option.bind_some]
        simp only
        rw [if_pos (by omega)]
        exact ih _ _ _ k (by rw [List.length_append]; simp; omega) (by omega) (by omega) (by omega)
      · rw [if_pos rfl]
        have := hb rfl
        obtain ⟨v, q', t', e', hv0, hv1, h3, h4⟩ := pick_some hl q t (acc.length : Int) (by omega) (by omega) (by omega)
        rw [e', Option.bind_some]
        simp only
        rw [if_pos hv0, if_pos hv1, if_pos (by omega)]
        exact ih _ _ _ k (by rw [List.length_append]; simp; omega) (by omega) (by omega) (by omega)
    rw [spec_DrawCommonPlace.l0, if_pos (by omega)]
    by_cases hz : (acc.length : Int) > 0
    · rw [if_pos hz]
      obtain ⟨v, q, t, e, hq, hq2⟩ := one_some hl p s 2 h0 (by omega) (by omega)
      rw [e, Option.bind_some]
      exact hj v q t hq hq2 (fun _ => by omega)
    · rw [if_neg hz]
      exact hj false p s (by omega) (by omega) (fun h => by cases h)
theorem drawCommon_some {l : List Int} (hl : ∀ x ∈ l, (Lit.int .u8 x).wf = true) (k : Nat) (hk : 600 ≤ k) : ∃ L, spec_DrawCommonPlace.f k l = some L ∧ L.length ≤ 100 := by
  have hj : ∀ (n : Nat) (q t : Int), n ≤ 100 → 0 ≤ q → q ≤ 100 → ∃ L, spec_DrawCommonPlace.j0 k [] (n : Int) l q t = some L ∧ L.length ≤ 100 := by
    intro n q t hn h0 h1
    obtain ⟨k, rfl⟩ : ∃ q, k = q + 1 := ⟨k - 1, by omega⟩
    rw [spec_DrawCommonPlace.j0]
    obtain ⟨L, e, hL⟩ := common_l0 hl n hn n [] q t k (by simp) h0 (by omega) (by omega)
    exact ⟨L, e, by omega⟩
  unfold spec_DrawCommonPlace.f
  obtain ⟨v, q, t, e, hv0, hv1, hq, hq2⟩ := pick_some hl 0 0 7 (by omega) (by omega) (by omega)
  rw [e, Option.bind_some]
  simp only
  obtain ⟨u, q', t', e', h3, h4⟩ := one_some hl q t 12 (by omega) (by omega) (by omega)
  rw [e', Option.bind_some]
  simp only
  cases u
  · rw [if_neg Bool.false_ne_true]
    have h := hj v.toNat q' t' (by omega) (by omega) (by omega)
    rw [Int.toNat_of_nonneg hv0] at h
    exact h
  · rw [if_pos rfl]
    obtain ⟨z, q3, t3, e3, hz0, hz1, h5, h6⟩ := pick_some hl q' t' 2 (by omega) (by omega) (by omega)
    rw [e3, Option.bind_some]
    simp only
    rw [wy (x := 40 + z) (by omega) (by omega)]
    have h := hj (40 + z).toNat q3 t3 (by omega) (by omega) (by omega)
    rw [Int.toNat_of_nonneg (by omega)] at h
    exact h
theorem rd_last : ∀ (ext : List S25) (p : S25), rd_T25 (p :: ext) (ext.length : Int) = lastOf p ext := by
  intro ext
  induction ext with
  | nil => intro p; unfold rd_T25 lastOf; simp
  | cons q r ih =>
    intro p
    show _ = lastOf q r
    rw [← ih q]
    unfold rd_T25
    simp
theorem within_spec (a0 a1 : Int) (a2 : Bool) (a : Int) (k : Nat) (hk : 300 ≤ k) : (good a0 a1 a2 = true ∧ spec_PlacesWithin.f k a0 a1 a2 a = some (near a0 a1 a2 a places, true)) ∨ spec_PlacesWithin.f k a0 a1 a2 a = some ([], false) := by
  obtain ⟨k, rfl⟩ : ∃ q, k = q + 1 := ⟨k - 1, by omega⟩
  cases hg : good a0 a1 a2
  · right
    unfold spec_PlacesWithin.f; rw [good_spec, hg]; rfl
  · by_cases ha : 0 ≤ a ∧ a ≤ 5
    · left
      refine ⟨rfl, ?_⟩
      unfold spec_PlacesWithin.f; rw [good_spec, hg, in_some, decide_eq_true ha]
      simp only [Option.bind_some, if_true, spec_PlacesWithin.j0, Bool.not_true, Bool.false_eq_true, if_false]
      rw [plAll_eq k (by omega)]
      simp only [Option.bind_some]
      have h := within_spec_l0 a0 a1 a2 hg a places (by rw [places_length]; omega) places [] [] k (by simp) places_good (by rw [places_length]; simp) (by rw [places_length]; omega)
      simpa using h
    · right
      unfold spec_PlacesWithin.f; rw [good_spec, hg, in_some, decide_eq_false ha]; rfl
theorem tail_true (n : Int) (nr L : List S25) (b : Bool) (p0 p1 : Int) (p2 : Bool) (r0 r1 : Int) (r2 : Bool) (hL : L.length ≤ 1000) (hb : b = true → 0 < L.countP (eqp ⟨r0, r1, r2⟩))
    (hnr : nr = [] ∨ (good p0 p1 p2 = true ∧ nr = near p0 p1 p2 n places)) (k : Nat) (hk : 2000 ≤ k) : laws_FnPlaceWays.j4 k n nr L b p0 p1 p2 r0 r1 r2 = some true := by
  have hl2 : ∀ k, 1500 ≤ k → (if b = true then laws_FnPlaceWays.l2 k 0 L (L.length : Int) 0 r0 r1 r2 else some true) = some true := by
    intro k hk
    cases b
    · rw [if_neg Bool.false_ne_true]
    · rw [if_pos rfl]
      have h := count_l2 r0 r1 r2 L hL L [] 0 k rfl (by omega) (by omega) (by omega)
      have := hb rfl
      rw [show laws_FnPlaceWays.l2 k 0 L (L.length : Int) 0 r0 r1 r2 = _ from h, decide_eq_true (by omega)]
  obtain ⟨k, rfl⟩ : ∃ q, k = q + 1 := ⟨k - 1, by omega⟩
  rw [laws_FnPlaceWays.j4]
  rcases hnr with rfl | ⟨hg, rfl⟩
  · obtain ⟨k, rfl⟩ : ∃ q, k = q + 1 := ⟨k - 1, by omega⟩
    rw [laws_FnPlaceWays.l1, if_neg (by simp)]
    exact hl2 k (by omega)
  · have hlen := near_length p0 p1 p2 n places
    rw [places_length] at hlen
    obtain ⟨m, rfl⟩ : ∃ m, k = m + (near p0 p1 p2 n places).length + 1 := ⟨k - (near p0 p1 p2 n places).length - 1, by omega⟩
    have h := near_l1 n L b p0 p1 p2 hg r0 r1 r2 (near p0 p1 p2 n places) (by omega) (near p0 p1 p2 n places) [] (-1) m rfl (fun q hq => by
      obtain ⟨q1, q2⟩ := List.mem_filter.1 hq
      have g := List.all_eq_true.1 places_good q q1
      have c := of_decide_eq_true (List.all_eq_true.1 places_pos q q1)
      exact ⟨g, of_decide_eq_true q2, by omega⟩) (List.Pairwise.sublist List.filter_sublist places_up)
    rw [show laws_FnPlaceWays.l1 (m + (near p0 p1 p2 n places).length + 1) n L b (-1) (near p0 p1 p2 n places) ((near p0 p1 p2 n places).length : Int) 0 p0 p1 p2 r0 r1 r2 = _ from h]
    exact hl2 m (by omega)
theorem all_true (l0 l1 : List Int) (h0 : ∀ x ∈ l0, (Lit.int .u8 x).wf = true) (h1 : ∀ x ∈ l1, (Lit.int .u8 x).wf = true) : laws_FnPlaceWays.f 6000 l0 l1 = some true := by
  unfold laws_FnPlaceWays.f
  by_cases hb : wrap64 ((l0.length : Int) + (l1.length : Int)) > 1048576
  · rw [if_pos hb]
  rw [if_neg hb]
  obtain ⟨a0, a1, a2, b0, b1, b2, e⟩ := drawWay_some h0 6000 (by omega)
  rw [e, Option.bind_some]
  simp only
  obtain ⟨w, ok, hw, ws, wi⟩ := way_same a0 a1 a2 b0 b1 b2
  have ws6 := ws 6000 (by omega)
  rw [wi 6000 (by omega), Option.bind_some, ws6, Option.bind_some]
  simp only
  obtain ⟨p0, p1, p2, n, e2⟩ := drawWithin_some h1 6000 (by omega)
  obtain ⟨nr, ok2, hn, ns, ni⟩ := within_same p0 p1 p2 n
  have hnr : nr = [] ∨ (good p0 p1 p2 = true ∧ nr = near p0 p1 p2 n places) := by
    have h := ns 6000 (by omega)
    rcases within_spec p0 p1 p2 n 6000 (by omega) with ⟨g, h'⟩ | h'
    · rw [h] at h'; injection h' with h'; injection h' with h' _; exact .inr ⟨g, h'⟩
    · rw [h] at h'; injection h' with h'; injection h' with h' _; exact .inl h'
  obtain ⟨L, e3, hL⟩ := drawCommon_some h1 6000 (by omega)
  obtain ⟨r1, r2, r3, r4, cs, ci⟩ := common_same L 6000 (by omega) (by omega)
  have hcom : r4 = true → 0 < L.countP (eqp ⟨r1, r2, r3⟩) := fun h => by
    subst h; exact common_in L 6000 (by omega) (by omega) cs
  have hT := tail_true n nr L r4 p0 p1 p2 r1 r2 r3 (by omega) hcom hnr
  have qw := qP_self w 6000 (by omega) (by omega)
  have qn := qP_self nr 6000 (by omega) (by omega)
  by_cases hg : good a0 a1 a2 = true ∧ good b0 b1 b2 = true
  · obtain ⟨ga, gb⟩ := hg
    rw [pd_good ga gb, Option.bind_some, pds_good ga gb, Option.bind_some]
    simp only
    rw [e2, Option.bind_some]
    simp only
    rw [ni 6000 (by omega), Option.bind_some, ns 6000 (by omega), Option.bind_some, e3, Option.bind_some, ci, Option.bind_some, cs, Option.bind_some]
    simp only [bne_self_eq_false, Bool.false_eq_true, if_false, qw, qn, Option.bind_some, if_true, beq_self_eq_true, Bool.not_true, Bool.or_self]
    have hj1 : laws_FnPlaceWays.j1 5999 ok w (far a0 a1 a2 b0 b1 b2) n nr L r4 a0 a1 a2 b0 b1 b2 p0 p1 p2 r1 r2 r3 = some true := by
      rw [laws_FnPlaceWays.j1]
      by_cases hz : a0 = 0 ↔ b0 = 0
      · obtain ⟨ext, x1, x2, x3, x4, x5⟩ := way_good ga gb hz
        have hx := x5 6000 (by omega)
        rw [ws6] at hx
        injection hx with hx
        injection hx with hx1 hx2
        subst hx1 hx2
        have hlen : (((⟨a0, a1, a2⟩ : S25) :: ext).length : Int) = (ext.length : Int) + 1 := by rw [List.length_cons]; omega
        have e0 : rd_T25 ((⟨a0, a1, a2⟩ : S25) :: ext) 0 = ⟨a0, a1, a2⟩ := rdP [] ⟨a0, a1, a2⟩ ext
        have eL : rd_T25 ((⟨a0, a1, a2⟩ : S25) :: ext) (ext.length : Int) = ⟨b0, b1, b2⟩ := by rw [rd_last, x4]
        rw [if_pos rfl, ← x1, hlen, wy (x := (ext.length : Int) + 1) (by omega) (by omega), if_pos rfl, if_pos (by omega), e0]
        simp only [beq_self_eq_true, Bool.not_true, Bool.or_self, Bool.false_eq_true, if_false]
        rw [if_pos (by omega), if_pos (by omega), eL]
        simp only [beq_self_eq_true, Bool.not_true, Bool.or_self]
        rw [laws_FnPlaceWays.j2, if_neg Bool.false_ne_true]
        obtain ⟨m, hm⟩ : ∃ m, 5997 = m + ext.length + 1 := ⟨5997 - ext.length - 1, by omega⟩
        have h := steps_l0 n nr L r4 p0 p1 p2 r1 r2 r3 ext [] ⟨a0, a1, a2⟩ m ga x3 (by simp; omega)
        rw [hm, show laws_FnPlaceWays.l0 (m + ext.length + 1) ((⟨a0, a1, a2⟩ : S25) :: ext) n nr L r4 1 p0 p1 p2 r1 r2 r3 = _ from h]
        exact hT m (by omega)
      · have hx := way_bad (a0 := a0) (a1 := a1) (a2 := a2) (b0 := b0) (b1 := b1) (b2 := b2) (fun h => hz h.2.2) 5999
        rw [ws6] at hx
        injection hx with hx
        injection hx with hx1 hx2
        subst hx1 hx2
        rw [if_neg Bool.false_ne_true]
        exact hT _ (by omega)
    have hj0 : laws_FnPlaceWays.j0 6000 ok w true (far a0 a1 a2 b0 b1 b2) n nr L r4 false a0 a1 a2 b0 b1 b2 p0 p1 p2 r1 r2 r3 = some true := by
      rw [laws_FnPlaceWays.j0, if_neg Bool.false_ne_true, if_pos rfl, pd_good gb ga, Option.bind_some]
      simp only [if_true, far_comm a0 a1 a2 b0 b1 b2, far_zero, bne_self_eq_false, Bool.false_eq_true, if_false]
      exact hj1
    rw [hj0]
    split <;> rfl
  · have hgb : (good a0 a1 a2 && good b0 b1 b2) = false := by
      cases h1 : good a0 a1 a2
      · rfl
      · cases h2 : good b0 b1 b2
        · rfl
        · exact absurd ⟨h1, h2⟩ hg
    have hx := way_bad (a0 := a0) (a1 := a1) (a2 := a2) (b0 := b0) (b1 := b1) (b2 := b2) (fun h => hg ⟨h.1, h.2.1⟩) 5999
    rw [ws6] at hx
    injection hx with hx
    injection hx with hx1 hx2
    subst hx1 hx2
    rw [pd_bad hgb, Option.bind_some, pds_bad hgb, Option.bind_some]
    simp only
    rw [e2, Option.bind_some]
    simp only
    rw [ni 6000 (by omega), Option.bind_some, ns 6000 (by omega), Option.bind_some, e3, Option.bind_some, ci, Option.bind_some, cs, Option.bind_some]
    simp only [bne_self_eq_false, Bool.false_eq_true, if_false, qw, qn, Option.bind_some, if_true, beq_self_eq_true, Bool.not_true, Bool.or_self]
    rw [laws_FnPlaceWays.j0, if_neg Bool.false_ne_true, if_neg Bool.false_ne_true, laws_FnPlaceWays.j1, if_neg Bool.false_ne_true]
    exact hT _ (by omega)
end Go.Proofs.Ytmjejlifohghjaa.MFnPlaceWays
