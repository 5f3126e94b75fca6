/- Plain words on letters that look alike. -/
import Derived.Test.YtopmmmggjohkeaaML
import Derived.Test.YtopmmmggjohkeaaFAx19
import Derived.Test.YtopmmmggjohkeaaFAx21 -- home: spec_AlikeLetters.f impl_AlikeLetters.f
namespace Go.Proofs.Ytopmmmggjohkeaa.MS
open Go.RowKit Go.Proofs.Ytopmmmggjohkeaa.MB Go.Proofs.Ytopmmmggjohkeaa.FA Go.Proofs.YtopmmmggjohkeaaW.PrintWords Go.Proofs.YtopmmmggjohkeaaW.PrintLast Go.Proofs.YtopmmmggjohkeaaW.PrintMore
/-- Is the letter at place i the first of several of its shape? -/
def firstOf (l : List Int) (i : Nat) : Bool := decide (1 < (lets l (rd l (i : Int))).size) && decide (bt (lets l (rd l (i : Int))) 0 = 65 + (i : Int))
def alikes (l : List Int) : List ByteArray → Nat → Nat → List ByteArray
  | a, _, 0 => a
  | a, i, d + 1 => alikes l (if firstOf l i = true then a ++ [lets l (rd l (i : Int))] else a) (i + 1) d
theorem caps_bt : ∀ i ∈ List.range 26, bt caps (i : Int) = 65 + (i : Int) := by decide +kernel
theorem alikes_l0 (l : List Int) (hl : l.length = 26) : ∀ (d k i : Nat) (a : List ByteArray), a.length ≤ i → i + d = 26 → d + 30 < k →
    spec_AlikeLetters.l0 k l a l (l.length : Int) (i : Int) = some (alikes l a i d, true) ∧ impl_AlikeLetters.l0 k l a l (l.length : Int) (i : Int) = some (alikes l a i d, true) := by
  intro d
  induction d with
  | zero =>
    intro k i a ha hi hk
    obtain ⟨k, rfl⟩ : ∃ q, k = q + 1 := ⟨k - 1, by omega⟩
    simp only [spec_AlikeLetters.l0, impl_AlikeLetters.l0]
    refine ⟨?_, ?_⟩ <;> rw [if_neg (by omega)] <;> rfl
  | succ d ih =>
    intro k i a ha hi hk
    obtain ⟨k, rfl⟩ : ∃ q, k = q + 1 := ⟨k - 1, by omega⟩
    have hcb := caps_bt i (List.mem_range.2 (by omega))
    unfold caps at hcb
    obtain ⟨hr0, hr1⟩ := bt_range (lets l (rd l (i : Int))) 0
    simp only [spec_AlikeLetters.l0, impl_AlikeLetters.l0]
    by_cases hf : 1 < (lets l (rd l (i : Int))).size
    · by_cases hb : bt (lets l (rd l (i : Int))) 0 = 65 + (i : Int)
      · have e : firstOf l i = true := by unfold firstOf; simp [hf, hb]
        obtain ⟨h1, h2⟩ := ih k (i + 1) (a ++ [lets l (rd l (i : Int))]) (by simp; omega) (by omega) (by omega)
        unfold alikes
        rw [if_pos e]
        refine ⟨?_, ?_⟩
        · rw [if_pos (by omega), if_pos (by omega), if_pos (by omega), lets_spec l hl _ k (by omega)]
          simp only [Option.bind_some]
          rw [if_pos (by omega), if_pos (by omega), if_pos (by omega), if_pos (by omega), up (n := l.length) (by omega) (by omega)]
          exact h1
        · rw [if_pos (by omega), if_pos (by omega), if_pos (by omega), lets_impl l hl _ k (by omega)]
          simp only [Option.bind_some]
          rw [if_pos (by omega), if_pos (by omega), if_pos (by omega), if_pos (hb.trans hcb.symm), if_pos (by omega), up (n := l.length) (by omega) (by omega)]
          exact h2
      · have e : firstOf l i = false := by unfold firstOf; simp [hb]
        obtain ⟨h1, h2⟩ := ih k (i + 1) a (by omega) (by omega) (by omega)
        unfold alikes
        rw [e, if_neg Bool.false_ne_true]
        refine ⟨?_, ?_⟩
        · rw [if_pos (by omega), if_pos (by omega), if_pos (by omega), lets_spec l hl _ k (by omega)]
          simp only [Option.bind_some]
          rw [if_pos (by omega), if_pos (by omega), if_neg (by omega), up (n := l.length) (by omega) (by omega)]
          exact h1
        · rw [if_pos (by omega), if_pos (by omega), if_pos (by omega), lets_impl l hl _ k (by omega)]
          simp only [Option.bind_some]
          rw [if_pos (by omega), if_pos (by omega), if_pos (by omega), if_neg (fun h => hb (h.trans hcb)), up (n := l.length) (by omega) (by omega)]
          exact h2
    · have e : firstOf l i = false := by unfold firstOf; simp [hf]
      obtain ⟨h1, h2⟩ := ih k (i + 1) a (by omega) (by omega) (by omega)
      unfold alikes
      rw [e, if_neg Bool.false_ne_true]
      refine ⟨?_, ?_⟩
      · rw [if_pos (by omega), if_pos (by omega), if_pos (by omega), lets_spec l hl _ k (by omega)]
        simp only [Option.bind_some]
        rw [if_neg (by omega), up (n := l.length) (by omega) (by omega)]
        exact h1
      · rw [if_pos (by omega), if_pos (by omega), if_pos (by omega), lets_impl l hl _ k (by omega)]
        simp only [Option.bind_some]
        rw [if_neg (by omega), up (n := l.length) (by omega) (by omega)]
        exact h2
theorem alikes_length (l : List Int) : ∀ (d i : Nat) (a : List ByteArray), a.length ≤ i → (alikes l a i d).length ≤ i + d
  | 0, i, a, h => h
  | d + 1, i, a, h => by
    unfold alikes
    have hs : (if firstOf l i = true then a ++ [lets l (rd l (i : Int))] else a).length ≤ i + 1 := by
      split
      · rw [List.length_append, List.length_singleton]; omega
      · omega
    exact Nat.le_trans (alikes_length l d (i + 1) _ hs) (by omega)
/-- Letters that look alike. -/
def alike (l : List Int) : List ByteArray × Bool := if alpha l = true then (alikes l [] 0 26, true) else ([], false)
theorem alike_length (l : List Int) : (alike l).1.length ≤ 26 := by
  unfold alike
  split
  · exact alikes_length l 26 0 [] (by simp)
  · simp
theorem alike_eq (l : List Int) (k : Nat) (hl : l.length ≤ 1048576) (hk : l.length + 100 < k) : spec_AlikeLetters.f k l = some (alike l) ∧ impl_AlikeLetters.f k l = some (alike l) := by
  unfold spec_AlikeLetters.f impl_AlikeLetters.f alike
  rw [alpha_spec l k hl (by omega), alpha_impl]
  simp only [Option.bind_some]
  cases ha : alpha l
  · simp
  · obtain ⟨h1, h2⟩ := alikes_l0 l (alpha_len ha) 26 k 0 [] (by simp) (by omega) (by omega)
    rw [show ((0 : Nat) : Int) = 0 from rfl] at h1 h2
    simp [h1, h2]
end Go.Proofs.Ytopmmmggjohkeaa.MS
