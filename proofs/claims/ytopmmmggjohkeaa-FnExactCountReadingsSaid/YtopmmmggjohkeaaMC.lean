/- Plain words on the number of readings. -/
import Derived.Test.YtopmmmggjohkeaaML
import Derived.Test.YtopmmmggjohkeaaFAx26
import Derived.Test.YtopmmmggjohkeaaFAx27 -- home: spec_CountReadings.f impl_CountReadings.f spec_fsGiven.f impl_areShapes.f
namespace Go.Proofs.Ytopmmmggjohkeaa.MS
open Go.RowKit Go.Proofs.Ytopmmmggjohkeaa.MB Go.Proofs.Ytopmmmggjohkeaa.FA Go.Proofs.YtopmmmggjohkeaaW.PrintWords Go.Proofs.YtopmmmggjohkeaaW.PrintLast Go.Proofs.YtopmmmggjohkeaaW.PrintMore
/-- Shapes of a word. -/
def given (s : List Int) : Bool := decide (1 ≤ (s.length : Int) ∧ (s.length : Int) ≤ 8) && s.all fun x => decide (0 ≤ x ∧ x ≤ 999)
theorem given_len {s : List Int} (h : given s = true) : 1 ≤ s.length ∧ s.length ≤ 8 := by
  unfold given at h; simp only [Bool.and_eq_true, decide_eq_true_eq] at h; omega
theorem given_impl (s : List Int) : impl_areShapes.f s = some (given s) := by
  unfold impl_areShapes.f given
  rw [within_some, allWithin_eq]
  cases decide (1 ≤ (s.length : Int) ∧ (s.length : Int) ≤ 8) <;> simp
theorem given_spec (l s : List Int) (k : Nat) (hl : l.length ≤ 1048576) (hk : l.length < k) (hs : s.length ≤ 1048576) (hk2 : s.length < k) : spec_fsGiven.f k l s = some (alpha l && given s) := by
  unfold spec_fsGiven.f given
  rw [alpha_spec l k hl hk, in_some, l1All_eq s 0 999 k hs hk2]
  cases alpha l <;> cases decide (1 ≤ (s.length : Int) ∧ (s.length : Int) ≤ 8) <;> simp
/-- The product of the numbers of letters. -/
def cnt (l s : List Int) : Int → Nat → Nat → Int
  | x, _, 0 => x
  | x, i, d + 1 => cnt l s (wrap64 (x * ((lets l (rd s (i : Int))).size : Int))) (i + 1) d
theorem cnt_l0 (l s : List Int) (hl : l.length = 26) (hn : s.length ≤ 8) : ∀ (d k i : Nat) (x : Int), i + d = s.length → d + 26 < k →
    spec_CountReadings.l0 k l x s (s.length : Int) (i : Int) = some (cnt l s x i d, true) ∧ impl_CountReadings.l0 k l x s (s.length : Int) (i : Int) = some (cnt l s x i d, true) := by
  intro d
  induction d with
  | zero =>
    intro k i x hi hk
    obtain ⟨k, rfl⟩ : ∃ q, k = q + 1 := ⟨k - 1, by omega⟩
    simp only [spec_CountReadings.l0, impl_CountReadings.l0]
    refine ⟨?_, ?_⟩ <;> rw [if_neg (by omega)] <;> rfl
  | succ d ih =>
    intro k i x hi hk
    obtain ⟨k, rfl⟩ : ∃ q, k = q + 1 := ⟨k - 1, by omega⟩
    obtain ⟨h1, h2⟩ := ih k (i + 1) (wrap64 (x * ((lets l (rd s (i : Int))).size : Int))) (by omega) (by omega)
    simp only [spec_CountReadings.l0, impl_CountReadings.l0]
    refine ⟨?_, ?_⟩
    · rw [if_pos (by omega), if_pos (by omega), if_pos (by omega), lets_spec l hl _ k (by omega), up (n := s.length) (by omega) (by omega)]
      exact h1
    · rw [if_pos (by omega), if_pos (by omega), if_pos (by omega), lets_impl l hl _ k (by omega), up (n := s.length) (by omega) (by omega)]
      exact h2
/-- How many readings shapes have. -/
def count (l s : List Int) : Int × Bool := if alpha l = true ∧ given s = true then (cnt l s 1 0 s.length, true) else (0, false)
theorem count_eq (l s : List Int) (k : Nat) (hl : l.length ≤ 1048576) (hk : l.length + s.length + 50 < k) (hs : s.length ≤ 1048576) : spec_CountReadings.f k l s = some (count l s) ∧ impl_CountReadings.f k l s = some (count l s) := by
  unfold spec_CountReadings.f impl_CountReadings.f count
  rw [given_spec l s k hl (by omega) hs (by omega), alpha_impl, given_impl]
  simp only [Option.bind_some]
  obtain ⟨k, rfl⟩ : ∃ q, k = q + 1 := ⟨k - 1, by omega⟩
  cases ha : alpha l
  · simp [impl_CountReadings.j0]
  · cases hg : given s
    · simp [impl_CountReadings.j0]
    · have h8 := given_len hg
      have h1 := (cnt_l0 l s (alpha_len ha) h8.2 s.length (k + 1) 0 1 (by omega) (by omega)).1
      have h2 := (cnt_l0 l s (alpha_len ha) h8.2 s.length k 0 1 (by omega) (by omega)).2
      rw [show ((0 : Nat) : Int) = 0 from rfl] at h1 h2
      simp [impl_CountReadings.j0, h1, h2]
end Go.Proofs.Ytopmmmggjohkeaa.MS
