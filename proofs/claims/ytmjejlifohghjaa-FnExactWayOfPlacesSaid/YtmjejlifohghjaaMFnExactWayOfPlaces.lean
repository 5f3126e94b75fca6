/- The words that the plain law behind FnExactWayOfPlaces needs. -/
import Derived.Test.YtmjejlifohghjaaFAx2
import Derived.Test.YtmjejlifohghjaaFAx4
import Derived.Test.YtmjejlifohghjaaFAx9
import Derived.Test.YtmjejlifohghjaaFAx10
import Derived.Test.YtmjejlifohghjaaFAx11
import Derived.Test.YtmjejlifohghjaaFAx12
import Derived.Test.YtmjejlifohghjaaFAx13
import Derived.Test.YtmjejlifohghjaaFAx14
import Derived.Test.YtmjejlifohghjaaFAx15 -- home: cmp_Compare_int.f cmp_isNaN_int.f impl_IsPlace.f impl_WayOfPlaces.f impl_within.f laws_eqPlace.f laws_eqPlaceS.f laws_heldPlaceS.f laws_markPlaceS.f spec_WayOfPlaces.f spec_l1In.f spec_l1Sign.f spec_plGood.f
namespace Go.Proofs.Ytmjejlifohghjaa.MFnExactWayOfPlaces
open Go.RowKit Go.Proofs.Ytmjejlifohghjaa.FA Go.Proofs.YtmjejlifohghjaaW.PrintWords Go.Proofs.YtmjejlifohghjaaW.PrintLast Go.Proofs.YtmjejlifohghjaaW.PrintMore
set_option linter.unusedVariables false
theorem in_some (a b c : Int) : spec_l1In.f a b c = some (decide (b ≤ a ∧ a ≤ c)) := by
  unfold spec_l1In.f
  by_cases h : b ≤ a <;> simp [h]
theorem within_some (a b c : Int) : impl_within.f a b c = some (decide (b ≤ a ∧ a ≤ c)) := by
  unfold impl_within.f
  by_cases h : b ≤ a <;> simp [h]
/-- Is this a place? -/
def good (a b : Int) (c : Bool) : Bool := decide (0 ≤ a ∧ a ≤ 9) && (decide (-1 ≤ b ∧ b ≤ 1) && (decide (0 < a) || !c))
theorem good_iff {a b : Int} {c : Bool} : good a b c = true ↔ (0 ≤ a ∧ a ≤ 9) ∧ (-1 ≤ b ∧ b ≤ 1) ∧ (0 < a ∨ c = false) := by
  unfold good; simp
theorem good_spec (a b : Int) (c : Bool) : spec_plGood.f a b c = some (good a b c) := by
  unfold spec_plGood.f good
  simp only [in_some, Option.bind_some]
  by_cases h1 : 0 ≤ a ∧ a ≤ 9 <;> by_cases h2 : -1 ≤ b ∧ b ≤ 1 <;> by_cases h3 : 0 < a <;> simp [h1, h2, h3]
theorem good_impl (a b : Int) (c : Bool) : impl_IsPlace.f a b c = some (good a b c) := by
  unfold impl_IsPlace.f good
  simp only [within_some, Option.bind_some]
  by_cases h1 : 0 ≤ a ∧ a ≤ 9
  · by_cases h2 : -1 ≤ b ∧ b ≤ 1
    · cases c
      · simp [h1, h2]
      · by_cases h3 : a = 0
        · simp [h3]
        · have : 0 < a := by omega
          simp [h1, h2, h3, this]
    · simp [h1, h2]
  · simp [h1]
theorem eqPlace_self (a b : Int) (c : Bool) : laws_eqPlace.f a b c a b c = some true := by
  unfold laws_eqPlace.f; simp
theorem wq {x : Int} (h0 : -4611686018427387904 ≤ x) (h1 : x ≤ 4611686018427387904) : wrap64 x = x := by unfold wrap64; omega
theorem rdA (pre : List S25) (x : S25) (rest : List S25) : rd_T25 (pre ++ x :: rest) (pre.length : Int) = x := by
  unfold rd_T25; simp
theorem setA (pre : List S25) (x v : S25) (rest : List S25) : (pre ++ x :: rest).set (pre.length : Int).toNat v = pre ++ v :: rest := by
  simp
theorem step (pre : List S25) (v : S25) (h : pre.length ≤ 4611686018427387903) : wrap64 ((pre.length : Int) + 1) = ((pre ++ [v]).length : Int) := by
  rw [wq (by omega) (by omega)]; simp
/-- The marks, from one number on. -/
def marks : Int → List S25 → List S25
  | _, [] => []
  | c, _ :: xs => ⟨c, c + 1, (Int.tmod (c + 1 + 1) 3 == 0)⟩ :: marks (c + 1 + 1 + 1) xs
theorem mark_l0 : ∀ (rest pre : List S25) (k : Nat) (c : Int), 0 ≤ c → c + 3 * rest.length ≤ 2199023255552 → pre.length + rest.length ≤ 2199023255552 → rest.length < k →
    laws_markPlaceS.l0 k (pre ++ rest) c (pre.length : Int) = some (c + 3 * rest.length, pre ++ marks c rest) := by
  intro rest
  induction rest with
  | nil =>
    intro pre k c h0 h1 h2 hk
    obtain ⟨k, rfl⟩ : ∃ q, k = q + 1 := ⟨k - 1, by omega⟩
    simp only [laws_markPlaceS.l0, List.append_nil]
    rw [if_neg (by omega)]; simp [marks]
  | cons x xs ih =>
    intro pre k c h0 h1 h2 hk
    obtain ⟨k, rfl⟩ : ∃ q, k = q + 1 := ⟨k - 1, by omega⟩
    rw [List.length_cons] at h1 h2 hk
    simp only [laws_markPlaceS.l0]
    rw [if_pos (by simp; omega), if_pos (by omega)]
    simp only [Option.bind_some, rdA, setA]
    rw [wq (x := c + 1) (by omega) (by omega), wq (x := c + 1 + 1) (by omega) (by omega), wq (x := c + 1 + 1 + 1) (by omega) (by omega)]
    rw [step pre (⟨c, c + 1, (Int.tmod (c + 1 + 1) 3 == 0)⟩ : S25) (by omega), List.append_cons, ih _ k _ (by omega) (by omega) (by rw [List.length_append]; simp; omega) (by omega)]
    simp only [marks, List.append_assoc, List.singleton_append, List.length_cons]
    congr 2; omega
theorem held_l0 : ∀ (rest pre : List S25) (k : Nat) (c : Int), 0 ≤ c → c + 3 * rest.length ≤ 2199023255552 → pre.length + rest.length ≤ 2199023255552 → rest.length < k →
    laws_heldPlaceS.l0 k (pre ++ marks c rest) c (pre.length : Int) = some (c + 3 * rest.length) := by
  intro rest
  induction rest with
  | nil =>
    intro pre k c h0 h1 h2 hk
    obtain ⟨k, rfl⟩ : ∃ q, k = q + 1 := ⟨k - 1, by omega⟩
    simp only [laws_heldPlaceS.l0, marks, List.append_nil]
    rw [if_neg (by omega)]; simp
  | cons x xs ih =>
    intro pre k c h0 h1 h2 hk
    obtain ⟨k, rfl⟩ : ∃ q, k = q + 1 := ⟨k - 1, by omega⟩
    rw [List.length_cons] at h1 h2 hk
    rw [show marks c (x :: xs) = (⟨c, c + 1, (Int.tmod (c + 1 + 1) 3 == 0)⟩ : S25) :: marks (c + 1 + 1 + 1) xs from rfl]
    simp only [laws_heldPlaceS.l0]
    rw [if_pos (by simp; omega), if_pos (by omega)]
    simp only [rdA]
    rw [wq (x := c + 1) (by omega) (by omega), wq (x := c + 1 + 1) (by omega) (by omega), wq (x := c + 1 + 1 + 1) (by omega) (by omega)]
    simp only [if_true, bne_self_eq_false, Bool.false_eq_true, if_false]
    rw [step pre (⟨c, c + 1, (Int.tmod (c + 1 + 1) 3 == 0)⟩ : S25) (by omega), List.append_cons, ih _ k _ (by omega) (by omega) (by rw [List.length_append]; simp; omega) (by omega)]
    congr 1; rw [List.length_cons]; omega
/-- Marks are laid one behind the other, and are found again. -/
theorem mark_eq (l : List S25) (k : Nat) (hn : l.length ≤ 1048576) (hk : l.length < k) : laws_markPlaceS.f k l 1 = some (1 + 3 * (l.length : Int), marks 1 l) := by
  have h := mark_l0 l [] k 1 (by omega) (by omega) (by simp; omega) hk
  unfold laws_markPlaceS.f
  simpa using h
theorem held_eq (l : List S25) (k : Nat) (hn : l.length ≤ 1048576) (hk : l.length < k) : laws_heldPlaceS.f k (marks 1 l) 1 = some (1 + 3 * (l.length : Int)) := by
  have h := held_l0 l [] k 1 (by omega) (by omega) (by simp; omega) hk
  unfold laws_heldPlaceS.f
  simpa using h
theorem eqS_l0 (l : List S25) (hn : l.length ≤ 4611686018427387903) : ∀ (d k i : Nat), i + d = l.length → d < k → laws_eqPlaceS.l0 k l l (i : Int) = some true := by
  intro d
  induction d with
  | zero =>
    intro k i hi hk
    obtain ⟨k, rfl⟩ : ∃ q, k = q + 1 := ⟨k - 1, by omega⟩
    simp only [laws_eqPlaceS.l0]
    rw [if_neg (by omega)]
  | succ d ih =>
    intro k i hi hk
    obtain ⟨k, rfl⟩ : ∃ q, k = q + 1 := ⟨k - 1, by omega⟩
    simp only [laws_eqPlaceS.l0]
    rw [if_pos (by omega), if_pos (by omega), if_pos (by omega), eqPlace_self, show wrap64 ((i : Int) + 1) = ((i + 1 : Nat) : Int) from by rw [wq (by omega) (by omega)]; rfl]
    exact ih k (i + 1) (by omega) (by omega)
theorem eqS_self (l : List S25) (k : Nat) (hn : l.length ≤ 1048576) (hk : l.length < k) : laws_eqPlaceS.f k l l = some true := by
  unfold laws_eqPlaceS.f
  rw [if_pos rfl]
  exact eqS_l0 l (by omega) l.length k 0 (by omega) hk
theorem wz {x : Int} (h0 : -4611686018427387904 ≤ x) (h1 : x ≤ 4611686018427387904) : wrap64 x = x := by unfold wrap64; omega
/-- The sign of a difference. -/
theorem sign_spec (a b : Int) (h0 : -1000 ≤ a) (h1 : a ≤ 1000) (h2 : -1000 ≤ b) (h3 : b ≤ 1000) (h : a ≠ b) : spec_l1Sign.f (wrap64 (b - a)) = some (if a < b then 1 else -1) := by
  unfold spec_l1Sign.f
  rw [wz (by omega) (by omega)]
  by_cases hb : a < b
  · rw [if_pos (by omega), if_pos hb]
  · rw [if_neg (by omega), if_pos (by omega), if_neg hb]
theorem sign_impl (a b : Int) (h : a ≠ b) : cmp_Compare_int.f b a = some (if a < b then 1 else -1) := by
  unfold cmp_Compare_int.f cmp_isNaN_int.f
  simp only [Option.bind_some, bne_self_eq_false, Bool.false_eq_true, if_false]
  by_cases hb : a < b
  · rw [if_neg (by omega), if_pos (by omega), if_pos hb]
  · rw [if_pos (by omega), if_neg hb]
/-- Both go the same way. -/
theorem way_l0 (b0 b1 : Int) (b2 : Bool) (hb0 : -900 ≤ b0) (hb0' : b0 ≤ 900) (hb1 : -900 ≤ b1) (hb1' : b1 ≤ 900) : ∀ (n : Nat) (a0 a1 : Int) (a2 : Bool) (acc : List S25), -900 ≤ a0 → a0 ≤ 900 → -900 ≤ a1 → a1 ≤ 900 →
    (a0 - b0).natAbs + (a1 - b1).natAbs + (if a2 = b2 then 0 else 1) = n → acc.length + n ≤ 100000 →
    ∃ l : List S25, l.length = acc.length + n ∧ (∀ k, n < k → spec_WayOfPlaces.l0 k acc a0 a1 a2 b0 b1 b2 = some (l, true)) ∧ ∀ k, n < k → impl_WayOfPlaces.l0 k acc a0 a1 a2 b0 b1 b2 = some (l, true) := by
  intro n
  induction n with
  | zero =>
    intro a0 a1 a2 acc h0 h1 h2 h3 hn hl
    have e2 : a2 = b2 := by
      by_cases h : a2 = b2
      · exact h
      · rw [if_neg h] at hn; omega
    rw [if_pos e2] at hn
    have e0 : a0 = b0 := by omega
    have e1 : a1 = b1 := by omega
    subst e0 e1 e2
    refine ⟨acc, rfl, fun k hk => ?_, fun k hk => ?_⟩
    · obtain ⟨k, rfl⟩ : ∃ q, k = q + 1 := ⟨k - 1, by omega⟩
      simp [spec_WayOfPlaces.l0]
    · obtain ⟨k, rfl⟩ : ∃ q, k = q + 1 := ⟨k - 1, by omega⟩
      simp [impl_WayOfPlaces.l0]
  | succ n ih =>
    intro a0 a1 a2 acc h0 h1 h2 h3 hn hl
    have hc : (!(a0 == b0) || (!(a1 == b1) || (!(a2 == b2)))) = true := by
      by_cases e0 : a0 = b0
      · by_cases e1 : a1 = b1
        · by_cases e2 : a2 = b2
          · subst e0 e1 e2; simp at hn
          · simp [e2]
        · simp [e1]
      · simp [e0]
    by_cases e1 : a1 = b1
    · by_cases e0 : a0 = b0
      · have e2 : a2 ≠ b2 := by
          intro h; subst e0 e1 h; simp at hn
        rw [if_neg e2] at hn
        obtain ⟨l, hl1, hl2, hl3⟩ := ih a0 a1 b2 (acc ++ [⟨a0, a1, b2⟩]) h0 h1 h2 h3 (by rw [if_pos rfl]; omega) (by rw [List.length_append]; simp; omega)
        refine ⟨l, by rw [hl1, List.length_append]; simp; omega, fun k hk => ?_, fun k hk => ?_⟩
        · obtain ⟨k, rfl⟩ : ∃ q, k = q + 1 := ⟨k - 1, by omega⟩
          simp only [spec_WayOfPlaces.l0]
          rw [if_pos hc, if_pos e1, if_pos e0, if_pos (by omega)]
          exact hl2 k (by omega)
        · obtain ⟨k, rfl⟩ : ∃ q, k = q + 1 := ⟨k - 1, by omega⟩
          simp only [impl_WayOfPlaces.l0]
          rw [if_pos hc, if_pos e1, if_pos e0, if_pos (by omega)]
          exact hl3 k (by omega)
      · obtain ⟨s, hs⟩ : ∃ s : Int, s = if a0 < b0 then 1 else -1 := ⟨_, rfl⟩
        have hs2 : -900 ≤ a0 + s ∧ a0 + s ≤ 900 ∧ (a0 - b0).natAbs = (a0 + s - b0).natAbs + 1 := by
          by_cases h : a0 < b0
          · rw [if_pos h] at hs; omega
          · rw [if_neg h] at hs; omega
        obtain ⟨l, hl1, hl2, hl3⟩ := ih (a0 + s) a1 a2 (acc ++ [⟨a0 + s, a1, a2⟩]) hs2.1 hs2.2.1 h2 h3 (by omega) (by rw [List.length_append]; simp; omega)
        refine ⟨l, by rw [hl1, List.length_append]; simp; omega, fun k hk => ?_, fun k hk => ?_⟩
        · obtain ⟨k, rfl⟩ : ∃ q, k = q + 1 := ⟨k - 1, by omega⟩
          simp only [spec_WayOfPlaces.l0]
          rw [if_pos hc, if_pos e1, if_neg e0, sign_spec a0 b0 (by omega) (by omega) (by omega) (by omega) e0, ← hs]
          simp only [Option.bind_some]
          rw [if_pos (by omega), wz (x := a0 + s) (by omega) (by omega)]
          exact hl2 k (by omega)
        · obtain ⟨k, rfl⟩ : ∃ q, k = q + 1 := ⟨k - 1, by omega⟩
          simp only [impl_WayOfPlaces.l0]
          rw [if_pos hc, if_pos e1, if_neg e0, sign_impl a0 b0 e0, ← hs]
          simp only [Option.bind_some]
          rw [if_pos (by omega), wz (x := a0 + s) (by omega) (by omega)]
          exact hl3 k (by omega)
    · obtain ⟨s, hs⟩ : ∃ s : Int, s = if a1 < b1 then 1 else -1 := ⟨_, rfl⟩
      have hs2 : -900 ≤ a1 + s ∧ a1 + s ≤ 900 ∧ (a1 - b1).natAbs = (a1 + s - b1).natAbs + 1 := by
        by_cases h : a1 < b1
        · rw [if_pos h] at hs; omega
        · rw [if_neg h] at hs; omega
      obtain ⟨l, hl1, hl2, hl3⟩ := ih a0 (a1 + s) a2 (acc ++ [⟨a0, a1 + s, a2⟩]) h0 h1 hs2.1 hs2.2.1 (by omega) (by rw [List.length_append]; simp; omega)
      refine ⟨l, by rw [hl1, List.length_append]; simp; omega, fun k hk => ?_, fun k hk => ?_⟩
      · obtain ⟨k, rfl⟩ : ∃ q, k = q + 1 := ⟨k - 1, by omega⟩
        simp only [spec_WayOfPlaces.l0]
        rw [if_pos hc, if_neg e1, sign_spec a1 b1 (by omega) (by omega) (by omega) (by omega) e1, ← hs]
        simp only [Option.bind_some]
        rw [if_pos (by omega), wz (x := a1 + s) (by omega) (by omega)]
        exact hl2 k (by omega)
      · obtain ⟨k, rfl⟩ : ∃ q, k = q + 1 := ⟨k - 1, by omega⟩
        simp only [impl_WayOfPlaces.l0]
        rw [if_pos hc, if_neg e1, sign_impl a1 b1 e1, ← hs]
        simp only [Option.bind_some]
        rw [if_pos (by omega), wz (x := a1 + s) (by omega) (by omega)]
        exact hl3 k (by omega)
theorem way_same (a0 a1 : Int) (a2 : Bool) (b0 b1 : Int) (b2 : Bool) : ∃ (l : List S25) (b : Bool), l.length ≤ 100 ∧ (∀ k, 300 ≤ k → spec_WayOfPlaces.f k a0 a1 a2 b0 b1 b2 = some (l, b)) ∧ ∀ k, 300 ≤ k → impl_WayOfPlaces.f k a0 a1 a2 b0 b1 b2 = some (l, b) := by
  by_cases hg : good a0 a1 a2 = true ∧ good b0 b1 b2 = true ∧ ((a0 == 0) != (b0 == 0)) = false
  · obtain ⟨ha, hb, hz⟩ := hg
    obtain ⟨⟨p1, p2⟩, ⟨p3, p4⟩, _⟩ := good_iff.1 ha
    obtain ⟨⟨q1, q2⟩, ⟨q3, q4⟩, _⟩ := good_iff.1 hb
    have hm : (a0 - b0).natAbs + (a1 - b1).natAbs + (if a2 = b2 then 0 else 1) ≤ 20 := by split <;> omega
    obtain ⟨l, h1, h2, h3⟩ := way_l0 b0 b1 b2 (by omega) (by omega) (by omega) (by omega) _ a0 a1 a2 [⟨a0, a1, a2⟩] (by omega) (by omega) (by omega) (by omega) rfl (by simp; omega)
    refine ⟨l, true, by rw [h1]; simp; omega, fun k hk => ?_, fun k hk => ?_⟩
    · obtain ⟨k, rfl⟩ : ∃ q, k = q + 1 := ⟨k - 1, by omega⟩
      unfold spec_WayOfPlaces.f; rw [good_spec, ha, good_spec, hb, hz]
      simp only [Option.bind_some, if_true, spec_WayOfPlaces.j0, Bool.false_eq_true, if_false]
      exact h2 k (by omega)
    · obtain ⟨k, rfl⟩ : ∃ q, k = q + 1 := ⟨k - 1, by omega⟩
      unfold impl_WayOfPlaces.f; rw [good_impl, ha, good_impl, hb, hz]
      simp only [Option.bind_some, if_true, impl_WayOfPlaces.j0, Bool.false_eq_true, if_false]
      exact h3 k (by omega)
  · refine ⟨[], false, by simp, fun k hk => ?_, fun k hk => ?_⟩
    · obtain ⟨k, rfl⟩ : ∃ q, k = q + 1 := ⟨k - 1, by omega⟩
      unfold spec_WayOfPlaces.f; rw [good_spec, good_spec]
      simp only [Option.bind_some]
      cases ha : good a0 a1 a2
      · rfl
      · cases hb : good b0 b1 b2
        · rfl
        · cases hz : ((a0 == 0) != (b0 == 0))
          · exact absurd ⟨ha, hb, hz⟩ hg
          · rfl
    · obtain ⟨k, rfl⟩ : ∃ q, k = q + 1 := ⟨k - 1, by omega⟩
      unfold impl_WayOfPlaces.f; rw [good_impl, good_impl]
      simp only [Option.bind_some]
      cases ha : good a0 a1 a2
      · rfl
      · cases hb : good b0 b1 b2
        · rfl
        · cases hz : ((a0 == 0) != (b0 == 0))
          · exact absurd ⟨ha, hb, hz⟩ hg
          · rfl
end Go.Proofs.Ytmjejlifohghjaa.MFnExactWayOfPlaces
