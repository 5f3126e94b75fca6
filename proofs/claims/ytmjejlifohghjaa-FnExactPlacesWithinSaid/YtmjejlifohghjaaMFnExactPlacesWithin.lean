/- The words that the plain law behind FnExactPlacesWithin needs. -/
import Derived.Test.YtmjejlifohghjaaFAx2
import Derived.Test.YtmjejlifohghjaaFAx4
import Derived.Test.YtmjejlifohghjaaFAx5
import Derived.Test.YtmjejlifohghjaaFAx7
import Derived.Test.YtmjejlifohghjaaFAx8
import Derived.Test.YtmjejlifohghjaaFAx13
import Derived.Test.YtmjejlifohghjaaFAx14
import Derived.Test.YtmjejlifohghjaaFAx15
import Derived.Test.YtmjejlifohghjaaFAx17
import Derived.Test.YtmjejlifohghjaaFAx18 -- home: impl_IsPlace.f impl_PlaceOfCode.f impl_Place_distance.f impl_PlacesWithin.f impl_distance.f impl_within.f laws_eqPlace.f laws_eqPlaceS.f laws_heldPlaceS.f laws_markPlaceS.f spec_PlacesWithin.f spec_l1Abs.f spec_l1In.f spec_l1Most.f spec_plAll.f spec_plFar.f spec_plGood.f
namespace Go.Proofs.Ytmjejlifohghjaa.MFnExactPlacesWithin
open Go.RowKit Go.Proofs.Ytmjejlifohghjaa.FA Go.Proofs.YtmjejlifohghjaaW.PrintWords Go.Proofs.YtmjejlifohghjaaW.PrintLast Go.Proofs.YtmjejlifohghjaaW.PrintMore
set_option linter.unusedVariables false

theorem wr {x : Int} (h0 : -1000000 ≤ x) (h1 : x ≤ 1000000) : wrap64 x = x := by unfold wrap64; omega
theorem in_some (a b c : Int) : spec_l1In.f a b c = some (decide (b ≤ a ∧ a ≤ c)) := by
  unfold spec_l1In.f
  by_cases h : b ≤ a <;> simp [h]
theorem within_some (a b c : Int) : impl_within.f a b c = some (decide (b ≤ a ∧ a ≤ c)) := by
  unfold impl_within.f
  by_cases h : b ≤ a <;> simp [h]
/-- Is this a place? -/
def good (a b : Int) (c : Bool) : Bool := decide (0 ≤ a ∧ a ≤ 9) && (decide (-1 ≤ b ∧ b ≤ 1) && (decide (0 < a) || !c))
theorem good_iff {a b : Int} {c : Bool} : good a b c = true ↔ (0 ≤ a ∧ a ≤ 9) ∧ (-1 ≤ b ∧ b ≤ 1) ∧ (0 < a ∨ c = false) := by
  unfold good; simp
theorem good_spec (a b : Int) (c : Bool) : spec_plGood.f a b c = some (good a b c) := by
  unfold spec_plGood.f good
  simp only [in_some, Option.bind_some]
  by_cases h1 : 0 ≤ a ∧ a ≤ 9 <;> by_cases h2 : -1 ≤ b ∧ b ≤ 1 <;> by_cases h3 : 0 < a <;> simp [h1, h2, h3]
theorem good_impl (a b : Int) (c : Bool) : impl_IsPlace.f a b c = some (good a b c) := by
  unfold impl_IsPlace.f good
  simp only [within_some, Option.bind_some]
  by_cases h1 : 0 ≤ a ∧ a ≤ 9
  · by_cases h2 : -1 ≤ b ∧ b ≤ 1
    · cases c
      · simp [h1, h2]
      · by_cases h3 : a = 0
        · simp [h3]
        · have : 0 < a := by omega
          simp [h1, h2, h3, this]
    · simp [h1, h2]
  · simp [h1]
theorem eqPlace_self (a b : Int) (c : Bool) : laws_eqPlace.f a b c a b c = some true := by
  unfold laws_eqPlace.f; simp
theorem most_some (a b : Int) : spec_l1Most.f a b = some (mx a b) := by
  unfold spec_l1Most.f mx
  by_cases h : a > b
  · rw [if_pos h, if_neg (by omega)]
  · rw [if_neg h]
    by_cases h2 : a < b
    · rw [if_pos h2]
    · rw [if_neg h2]; congr 1; omega
/-- The distance of two numbers. -/
def dist (a b : Int) : Int := mx (a - b) (b - a)
theorem dist_nonneg (a b : Int) : 0 ≤ dist a b := by unfold dist mx; split <;> omega
theorem dist_impl {a b : Int} (ha : -1000 ≤ a) (ha2 : a ≤ 1000) (hb : -1000 ≤ b) (hb2 : b ≤ 1000) : impl_distance.f a b = some (dist a b) := by
  unfold impl_distance.f dist
  rw [wr (by omega) (by omega), wr (by omega) (by omega)]
theorem dist_spec {a b : Int} (ha : -1000 ≤ a) (ha2 : a ≤ 1000) (hb : -1000 ≤ b) (hb2 : b ≤ 1000) : spec_l1Abs.f (wrap64 (a - b)) = some (dist a b) := by
  unfold spec_l1Abs.f dist
  rw [wr (x := a - b) (by omega) (by omega), wr (by omega) (by omega), most_some]
  simp only [Option.bind_some]
  congr 2; omega
/-- The distance of two places. -/
def far (a0 a1 : Int) (a2 : Bool) (b0 b1 : Int) (b2 : Bool) : Int := dist a1 b1 + (if a2 = b2 then 0 else 1) + (if (a0 = 0) = (b0 = 0) then dist a0 b0 else 4)
theorem dist_le {a b : Int} (ha : -1000 ≤ a) (ha2 : a ≤ 1000) (hb : -1000 ≤ b) (hb2 : b ≤ 1000) : dist a b ≤ 2000 := by unfold dist mx; split <;> omega
theorem far_impl {a0 a1 : Int} {a2 : Bool} {b0 b1 : Int} {b2 : Bool} (ha : good a0 a1 a2 = true) (hb : good b0 b1 b2 = true) : impl_Place_distance.f a0 a1 a2 b0 b1 b2 = some (far a0 a1 a2 b0 b1 b2) := by
  obtain ⟨⟨h1, h2⟩, ⟨h3, h4⟩, _⟩ := good_iff.1 ha
  obtain ⟨⟨h5, h6⟩, ⟨h7, h8⟩, _⟩ := good_iff.1 hb
  unfold impl_Place_distance.f far
  rw [dist_impl (by omega) (by omega) (by omega) (by omega), dist_impl (by omega) (by omega) (by omega) (by omega)]
  have d0 := dist_nonneg a0 b0
  have d1 := dist_nonneg a1 b1
  have e0 := dist_le (a := a0) (b := b0) (by omega) (by omega) (by omega) (by omega)
  have e1 := dist_le (a := a1) (b := b1) (by omega) (by omega) (by omega) (by omega)
  simp only [Option.bind_some]
  generalize dist a1 b1 = x1 at *
  generalize dist a0 b0 = x0 at *
  rw [wr (x := x1 + 1) (by omega) (by omega), wr (x := x1 + 4) (by omega) (by omega), wr (x := x1 + 1 + 4) (by omega) (by omega), wr (x := x1 + 1 + x0) (by omega) (by omega), wr (x := x1 + x0) (by omega) (by omega)]
  rw [show (a0 == 0) = decide (a0 = 0) from rfl, show (b0 == 0) = decide (b0 = 0) from rfl]
  by_cases z0 : a0 = 0 <;> by_cases z1 : b0 = 0 <;> cases a2 <;> cases b2 <;> simp [z0, z1]
theorem far_spec {a0 a1 : Int} {a2 : Bool} {b0 b1 : Int} {b2 : Bool} (ha : good a0 a1 a2 = true) (hb : good b0 b1 b2 = true) : spec_plFar.f a0 a1 a2 b0 b1 b2 = some (far a0 a1 a2 b0 b1 b2) := by
  obtain ⟨⟨h1, h2⟩, ⟨h3, h4⟩, _⟩ := good_iff.1 ha
  obtain ⟨⟨h5, h6⟩, ⟨h7, h8⟩, _⟩ := good_iff.1 hb
  rw [← far_impl ha hb]
  unfold spec_plFar.f impl_Place_distance.f
  rw [dist_spec (by omega) (by omega) (by omega) (by omega), dist_spec (by omega) (by omega) (by omega) (by omega), dist_impl (by omega) (by omega) (by omega) (by omega), dist_impl (by omega) (by omega) (by omega) (by omega)]
theorem wq {x : Int} (h0 : -4611686018427387904 ≤ x) (h1 : x ≤ 4611686018427387904) : wrap64 x = x := by unfold wrap64; omega
theorem rdA (pre : List S25) (x : S25) (rest : List S25) : rd_T25 (pre ++ x :: rest) (pre.length : Int) = x := by
  unfold rd_T25; simp
theorem setA (pre : List S25) (x v : S25) (rest : List S25) : (pre ++ x :: rest).set (pre.length : Int).toNat v = pre ++ v :: rest := by
  simp
theorem step (pre : List S25) (v : S25) (h : pre.length ≤ 4611686018427387903) : wrap64 ((pre.length : Int) + 1) = ((pre ++ [v]).length : Int) := by
  rw [wq (by omega) (by omega)]; simp
/-- The marks, from one number on. -/
def marks : Int → List S25 → List S25
  | _, [] => []
  | c, _ :: xs => ⟨c, c + 1, (Int.tmod (c + 1 + 1) 3 == 0)⟩ :: marks (c + 1 + 1 + 1) xs
theorem mark_l0 : ∀ (rest pre : List S25) (k : Nat) (c : Int), 0 ≤ c → c + 3 * rest.length ≤ 2199023255552 → pre.length + rest.length ≤ 2199023255552 → rest.length < k →
    laws_markPlaceS.l0 k (pre ++ rest) c (pre.length : Int) = some (c + 3 * rest.length, pre ++ marks c rest) := by
  intro rest
  induction rest with
  | nil =>
    intro pre k c h0 h1 h2 hk
    obtain ⟨k, rfl⟩ : ∃ q, k = q + 1 := ⟨k - 1, by omega⟩
    simp only [laws_markPlaceS.l0, List.append_nil]
    rw [if_neg (by omega)]; simp [marks]
  | cons x xs ih =>
    intro pre k c h0 h1 h2 hk
    obtain ⟨k, rfl⟩ : ∃ q, k = q + 1 := ⟨k - 1, by omega⟩
    rw [List.length_cons] at h1 h2 hk
    simp only [laws_markPlaceS.l0]
    rw [if_pos (by simp; omega), if_pos (by omega)]
    simp only [Option.bind_some, rdA, setA]
    rw [wq (x := c + 1) (by omega) (by omega), wq (x := c + 1 + 1) (by omega) (by omega), wq (x := c + 1 + 1 + 1) (by omega) (by omega)]
    rw [step pre (⟨c, c + 1, (Int.tmod (c + 1 + 1) 3 == 0)⟩ : S25) (by omega), List.append_cons, ih _ k _ (by omega) (by omega) (by rw [List.length_append]; simp; omega) (by omega)]
    simp only [marks, List.append_assoc, List.singleton_append, List.length_cons]
    congr 2; omega
theorem held_l0 : ∀ (rest pre : List S25) (k : Nat) (c : Int), 0 ≤ c → c + 3 * rest.length ≤ 2199023255552 → pre.length + rest.length ≤ 2199023255552 → rest.length < k →
    laws_heldPlaceS.l0 k (pre ++ marks c rest) c (pre.length : Int) = some (c + 3 * rest.length) := by
  intro rest
  induction rest with
  | nil =>
    intro pre k c h0 h1 h2 hk
    obtain ⟨k, rfl⟩ : ∃ q, k = q + 1 := ⟨k - 1, by omega⟩
    simp only [laws_heldPlaceS.l0, marks, List.append_nil]
    rw [if_neg (by omega)]; simp
  | cons x xs ih =>
    intro pre k c h0 h1 h2 hk
    obtain ⟨k, rfl⟩ : ∃ q, k = q + 1 := ⟨k - 1, by omega⟩
    rw [List.length_cons] at h1 h2 hk
    rw [show marks c (x :: xs) = (⟨c, c + 1, (Int.tmod (c + 1 + 1) 3 == 0)⟩ : S25) :: marks (c + 1 + 1 + 1) xs from rfl]
    simp only [laws_heldPlaceS.l0]
    rw [if_pos (by simp; omega), if_pos (by omega)]
    simp only [rdA]
    rw [wq (x := c + 1) (by omega) (by omega), wq (x := c + 1 + 1) (by omega) (by omega), wq (x := c + 1 + 1 + 1) (by omega) (by omega)]
    simp only [if_true, bne_self_eq_false, Bool.false_eq_true, if_false]
    rw [step pre (⟨c, c + 1, (Int.tmod (c + 1 + 1) 3 == 0)⟩ : S25) (by omega), List.append_cons, ih _ k _ (by omega) (by omega) (by rw [List.length_append]; simp; omega) (by omega)]
    congr 1; rw [List.length_cons]; omega
/-- Marks are laid one behind the other, and are found again. -/
theorem mark_eq (l : List S25) (k : Nat) (hn : l.length ≤ 1048576) (hk : l.length < k) : laws_markPlaceS.f k l 1 = some (1 + 3 * (l.length : Int), marks 1 l) := by
  have h := mark_l0 l [] k 1 (by omega) (by omega) (by simp; omega) hk
  unfold laws_markPlaceS.f
  simpa using h
theorem held_eq (l : List S25) (k : Nat) (hn : l.length ≤ 1048576) (hk : l.length < k) : laws_heldPlaceS.f k (marks 1 l) 1 = some (1 + 3 * (l.length : Int)) := by
  have h := held_l0 l [] k 1 (by omega) (by omega) (by simp; omega) hk
  unfold laws_heldPlaceS.f
  simpa using h
theorem eqS_l0 (l : List S25) (hn : l.length ≤ 4611686018427387903) : ∀ (d k i : Nat), i + d = l.length → d < k → laws_eqPlaceS.l0 k l l (i : Int) = some true := by
  intro d
  induction d with
  | zero =>
    intro k i hi hk
    obtain ⟨k, rfl⟩ : ∃ q, k = q + 1 := ⟨k - 1, by omega⟩
    simp only [laws_eqPlaceS.l0]
    rw [if_neg (by omega)]
  | succ d ih =>
    intro k i hi hk
    obtain ⟨k, rfl⟩ : ∃ q, k = q + 1 := ⟨k - 1, by omega⟩
    simp only [laws_eqPlaceS.l0]
    rw [if_pos (by omega), if_pos (by omega), if_pos (by omega), eqPlace_self, show wrap64 ((i : Int) + 1) = ((i + 1 : Nat) : Int) from by rw [wq (by omega) (by omega)]; rfl]
    exact ih k (i + 1) (by omega) (by omega)
theorem eqS_self (l : List S25) (k : Nat) (hn : l.length ≤ 1048576) (hk : l.length < k) : laws_eqPlaceS.f k l l = some true := by
  unfold laws_eqPlaceS.f
  rw [if_pos rfl]
  exact eqS_l0 l (by omega) l.length k 0 (by omega) hk
/-- All the places. -/
def places : List S25 := (spec_plAll.f 200).getD []
theorem plAll_200 : spec_plAll.f 200 = some places := by
  have h : (spec_plAll.f 200).isSome = true := by decide +kernel
  unfold places
  cases hh : spec_plAll.f 200 with
  | none => rw [hh] at h; cases h
  | some l => rfl
theorem plAll_eq (k : Nat) (hk : 200 ≤ k) : spec_plAll.f k = some places := at_rounds (g := fun k => spec_plAll.f k) (fun k => spec_plAll.mono k) hk plAll_200
theorem places_length : places.length = 57 := by decide +kernel
theorem places_good : (places.all fun q => good q.f0 q.f1 q.f2) = true := by decide +kernel
theorem rdP (pre : List S25) (x : S25) (rest : List S25) : rd_T25 (pre ++ x :: rest) (pre.length : Int) = x := by
  unfold rd_T25; simp
theorem wz {x : Int} (h0 : -4611686018427387904 ≤ x) (h1 : x ≤ 4611686018427387904) : wrap64 x = x := by unfold wrap64; omega
theorem stepP (pre : List S25) (v : S25) (h : pre.length ≤ 4611686018427387903) : wrap64 ((pre.length : Int) + 1) = ((pre ++ [v]).length : Int) := by
  rw [wz (by omega) (by omega)]; simp
/-- The place of a code, if there is one. -/
def pl (n : Nat) : Option S25 := (impl_PlaceOfCode.f (n : Int)).bind fun t => if t.2.2.2 then some ⟨t.1, t.2.1, t.2.2.1⟩ else none
theorem pl_all : ((List.range 60).all fun n => (impl_PlaceOfCode.f (n : Int)).any fun t => !t.2.2.2 || good t.1 t.2.1 t.2.2.1) = true := by decide +kernel
theorem pl_places : (List.range' 0 60).filterMap pl = places := by kernel_rfl
/-- The places near one. -/
def near (a0 a1 : Int) (a2 : Bool) (d : Int) (L : List S25) : List S25 := L.filter fun q => decide (far a0 a1 a2 q.f0 q.f1 q.f2 ≤ d)
theorem within_spec_l0 (a0 a1 : Int) (a2 : Bool) (hg : good a0 a1 a2 = true) (a : Int) (L : List S25) (hL : L.length ≤ 1000) : ∀ (rest pre acc : List S25) (k : Nat), pre ++ rest = L → (rest.all fun q => good q.f0 q.f1 q.f2) = true → acc.length + rest.length ≤ 1000 → rest.length < k →
    spec_PlacesWithin.l0 k a acc L (L.length : Int) (pre.length : Int) a0 a1 a2 = some (acc ++ near a0 a1 a2 a rest, true) := by
  intro rest
  induction rest with
  | nil =>
    intro pre acc k h hc hb hk
    obtain ⟨k, rfl⟩ : ∃ q, k = q + 1 := ⟨k - 1, by omega⟩
    simp only [spec_PlacesWithin.l0]
    rw [if_neg (by rw [← h]; simp)]; simp [near]
  | cons x xs ih =>
    intro pre acc k h hc hb hk
    obtain ⟨k, rfl⟩ : ∃ q, k = q + 1 := ⟨k - 1, by omega⟩
    rw [List.all_cons, Bool.and_eq_true] at hc
    have hl : pre.length < L.length := by rw [← h]; simp
    rw [List.length_cons] at hk hb
    simp only [spec_PlacesWithin.l0]
    rw [if_pos (by omega), if_pos (by omega), if_pos (by omega)]
    have hr : rd_T25 L (pre.length : Int) = x := by rw [← h]; exact rdP pre x xs
    rw [hr, far_spec hg hc.1]
    simp only [Option.bind_some]
    rw [stepP pre x (by omega)]
    unfold near
    by_cases hf : far a0 a1 a2 x.f0 x.f1 x.f2 ≤ a
    · rw [if_pos hf, if_pos (by omega), ih (pre ++ [x]) _ k (by rw [← h]; simp) hc.2 (by rw [List.length_append]; simp; omega) (by omega)]
      simp [hf, near]
    · rw [if_neg hf, ih (pre ++ [x]) acc k (by rw [← h]; simp) hc.2 (by omega) (by omega)]
      simp [hf, near]
theorem within_impl_l0 (a0 a1 : Int) (a2 : Bool) (hg : good a0 a1 a2 = true) (a : Int) : ∀ (d i k : Nat) (acc : List S25), i + d = 60 → acc.length + d ≤ 1000 → d < k →
    impl_PlacesWithin.l0 k a acc (i : Int) a0 a1 a2 = some (acc ++ near a0 a1 a2 a ((List.range' i d).filterMap pl), true) := by
  intro d
  induction d with
  | zero =>
    intro i k acc hi hb hk
    obtain ⟨k, rfl⟩ : ∃ q, k = q + 1 := ⟨k - 1, by omega⟩
    simp only [impl_PlacesWithin.l0]
    rw [if_neg (by omega)]; simp [near]
  | succ d ih =>
    intro i k acc hi hb hk
    obtain ⟨k, rfl⟩ : ∃ q, k = q + 1 := ⟨k - 1, by omega⟩
    have hw : wrap64 ((i : Int) + 1) = ((i + 1 : Nat) : Int) := by rw [wz (by omega) (by omega)]; rfl
    have h1 := List.all_eq_true.1 pl_all i (List.mem_range.2 (by omega))
    simp only [impl_PlacesWithin.l0]
    rw [if_pos (by omega), hw, List.range'_succ]
    cases hx : impl_PlaceOfCode.f (i : Int) with
    | none => rw [hx] at h1; cases h1
    | some t =>
      obtain ⟨t0, t1, t2, t3⟩ := t
      rw [hx] at h1
      simp only [Option.any_some] at h1
      have hp : pl i = if t3 then some ⟨t0, t1, t2⟩ else none := by unfold pl; rw [hx]; rfl
      simp only [Option.bind_some]
      cases t3
      · rw [if_neg (by simp), ih (i + 1) k acc (by omega) (by omega) (by omega), List.filterMap_cons_none (by rw [hp]; rfl)]
      · simp only [Bool.not_true, Bool.false_or] at h1
        rw [if_pos rfl, far_impl hg h1, List.filterMap_cons_some (by rw [hp]; rfl)]
        simp only [Option.bind_some]
        by_cases hf : far a0 a1 a2 t0 t1 t2 ≤ a
        · rw [if_pos hf, if_pos (by omega), ih (i + 1) k _ (by omega) (by rw [List.length_append]; simp; omega) (by omega)]
          simp [hf, near]
        · rw [if_neg hf, ih (i + 1) k _ (by omega) (by omega) (by omega)]
          simp [hf, near]
theorem near_length (a0 a1 : Int) (a2 : Bool) (d : Int) (L : List S25) : (near a0 a1 a2 d L).length ≤ L.length := List.length_filter_le _ _
/-- Both answer the same places, at any number of rounds from here on. -/
theorem within_same (a0 a1 : Int) (a2 : Bool) (a : Int) : ∃ (l : List S25) (b : Bool), l.length ≤ 100 ∧ (∀ k, 300 ≤ k → spec_PlacesWithin.f k a0 a1 a2 a = some (l, b)) ∧ ∀ k, 300 ≤ k → impl_PlacesWithin.f k a0 a1 a2 a = some (l, b) := by
  cases hg : good a0 a1 a2
  · refine ⟨[], false, by simp, fun k hk => ?_, fun k hk => ?_⟩
    · obtain ⟨k, rfl⟩ : ∃ q, k = q + 1 := ⟨k - 1, by omega⟩
      unfold spec_PlacesWithin.f; rw [good_spec, hg]; rfl
    · obtain ⟨k, rfl⟩ : ∃ q, k = q + 1 := ⟨k - 1, by omega⟩
      unfold impl_PlacesWithin.f; rw [good_impl, hg]; rfl
  · by_cases ha : 0 ≤ a ∧ a ≤ 5
    · refine ⟨near a0 a1 a2 a places, true, ?_, fun k hk => ?_, fun k hk => ?_⟩
      · have := near_length a0 a1 a2 a places
        rw [places_length] at this; omega
      · obtain ⟨k, rfl⟩ : ∃ q, k = q + 1 := ⟨k - 1, by omega⟩
        unfold spec_PlacesWithin.f; rw [good_spec, hg, in_some, decide_eq_true ha]
        simp only [Option.bind_some, if_true, spec_PlacesWithin.j0, Bool.not_true, Bool.false_eq_true, if_false]
        rw [plAll_eq k (by omega)]
        simp only [Option.bind_some]
        have h := within_spec_l0 a0 a1 a2 hg a places (by rw [places_length]; omega) places [] [] k (by simp) places_good (by rw [places_length]; simp) (by rw [places_length]; omega)
        simpa using h
      · obtain ⟨k, rfl⟩ : ∃ q, k = q + 1 := ⟨k - 1, by omega⟩
        unfold impl_PlacesWithin.f; rw [good_impl, hg, within_some, decide_eq_true ha]
        simp only [Option.bind_some, if_true, impl_PlacesWithin.j0, Bool.not_true, Bool.false_eq_true, if_false]
        have h := within_impl_l0 a0 a1 a2 hg a 60 0 k [] (by omega) (by simp) (by omega)
        rw [pl_places] at h
        simpa using h
    · refine ⟨[], false, by simp, fun k hk => ?_, fun k hk => ?_⟩
      · obtain ⟨k, rfl⟩ : ∃ q, k = q + 1 := ⟨k - 1, by omega⟩
        unfold spec_PlacesWithin.f; rw [good_spec, hg, in_some, decide_eq_false ha]; rfl
      · obtain ⟨k, rfl⟩ : ∃ q, k = q + 1 := ⟨k - 1, by omega⟩
        unfold impl_PlacesWithin.f; rw [good_impl, hg, within_some, decide_eq_false ha]; rfl
end Go.Proofs.Ytmjejlifohghjaa.MFnExactPlacesWithin
