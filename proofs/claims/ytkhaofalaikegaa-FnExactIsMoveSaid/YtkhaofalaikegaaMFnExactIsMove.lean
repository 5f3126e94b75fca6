/- The words that the plain law behind FnExactIsMove needs. -/
import Derived.Test.YtkhaofalaikegaaFAx2
import Derived.Test.YtkhaofalaikegaaFAx3
import Derived.Test.YtkhaofalaikegaaFAx4 -- home: impl_IsMove.f impl_hasOnly.f impl_within.f spec_l1In.f spec_mvGood.f spec_mvIndex.f spec_mvSteps.f strings_IndexByte.f
namespace Go.Proofs.Ytkhaofalaikegaa.MFnExactIsMove
open Go.RowKit Go.Proofs.Ytkhaofalaikegaa.FA Go.Proofs.YtkhaofalaikegaaW.PrintWords Go.Proofs.YtkhaofalaikegaaW.PrintLast Go.Proofs.YtkhaofalaikegaaW.PrintMore
set_option linter.unusedVariables false

theorem in_some (a b c : Int) : spec_l1In.f a b c = some (decide (b ≤ a ∧ a ≤ c)) := by
  unfold spec_l1In.f
  by_cases h : b ≤ a <;> simp [h]
theorem within_some (a b c : Int) : impl_within.f a b c = some (decide (b ≤ a ∧ a ≤ c)) := by
  unfold impl_within.f
  by_cases h : b ≤ a <;> simp [h]
/-- Something holds for the d places from i on. -/
def from_ (p : Nat → Bool) (i d : Nat) : Bool := (List.range' i d).all p
theorem from_zero (p : Nat → Bool) (i : Nat) : from_ p i 0 = true := rfl
theorem from_succ (p : Nat → Bool) (i d : Nat) : from_ p i (d + 1) = (p i && from_ p (i + 1) d) := by
  unfold from_; rw [List.range'_succ]; rfl
/-- Does the byte at a place stand among some letters? -/
def has (C s : ByteArray) (i : Nat) : Bool := decide (¬ Lib.indexByte C.data.toList (bt s (i : Int)).toNat.toUInt8 < 0)
theorem hasOnly_any (C s : ByteArray) (hn : s.size ≤ 9223372036854775807) : ∀ (d k i : Nat), i + d = s.size → d < k →
    impl_hasOnly.l0 k s C (s.size : Int) (i : Int) = some (from_ (has C s) i d) := by
  intro d
  induction d with
  | zero =>
    intro k i hi hk
    obtain ⟨k, rfl⟩ : ∃ q, k = q + 1 := ⟨k - 1, by omega⟩
    simp only [impl_hasOnly.l0]
    rw [if_neg (by omega), from_zero]
  | succ d ih =>
    intro k i hi hk
    obtain ⟨k, rfl⟩ : ∃ q, k = q + 1 := ⟨k - 1, by omega⟩
    have hw : wrap64 ((i : Int) + 1) = ((i + 1 : Nat) : Int) := by unfold wrap64; omega
    simp only [impl_hasOnly.l0, strings_IndexByte.f]
    rw [if_pos (by omega), if_pos (by omega), if_pos (by omega), from_succ, hw, ih k (i + 1) (by omega) (by omega)]
    simp only [Option.bind_some]
    unfold has
    by_cases h1 : Lib.indexByte C.data.toList (bt s (i : Int)).toNat.toUInt8 < 0
    · rw [if_pos h1]; simp [h1]
    · rw [if_neg h1]; simp [h1]
theorem hasOnly_eq (C s : ByteArray) (k : Nat) (hn : s.size ≤ 9223372036854775807) (hk : s.size < k) : impl_hasOnly.f k s C = some (from_ (has C s) 0 s.size) := hasOnly_any C s hn s.size k 0 (by omega) hk
/-- The letters of the directions. -/
def dirs : ByteArray := ⟨#[117, 100, 108, 114, 102, 98]⟩
theorem dirs_fin : ∀ n ∈ List.range 256, spec_mvIndex.f 10 (n : Int) = some (Lib.indexByte dirs.data.toList (n : Int).toNat.toUInt8) := by decide +kernel
theorem mvIndex_eq (s : ByteArray) (i : Int) (k : Nat) (hk : 10 ≤ k) : spec_mvIndex.f k (bt s i) = some (Lib.indexByte dirs.data.toList (bt s i).toNat.toUInt8) := by
  obtain ⟨h0, h1⟩ := bt_range s i
  have h := dirs_fin (bt s i).toNat (List.mem_range.2 (by omega))
  rw [Int.toNat_of_nonneg h0] at h
  exact at_rounds (g := fun k => spec_mvIndex.f k (bt s i)) (fun k => spec_mvIndex.mono _ k) hk h
theorem mvSteps_l0 (s : ByteArray) (hn : s.size ≤ 9223372036854775807) : ∀ (d k i : Nat), i + d = s.size → d + 12 < k →
    spec_mvSteps.l0 k s (i : Int) = some (from_ (has dirs s) i d) := by
  intro d
  induction d with
  | zero =>
    intro k i hi hk
    obtain ⟨k, rfl⟩ : ∃ q, k = q + 1 := ⟨k - 1, by omega⟩
    simp only [spec_mvSteps.l0]
    rw [if_neg (by omega), from_zero]
  | succ d ih =>
    intro k i hi hk
    obtain ⟨k, rfl⟩ : ∃ q, k = q + 1 := ⟨k - 1, by omega⟩
    have hw : wrap64 ((i : Int) + 1) = ((i + 1 : Nat) : Int) := by unfold wrap64; omega
    simp only [spec_mvSteps.l0]
    rw [if_pos (by omega), if_pos (by omega), mvIndex_eq s _ k (by omega), from_succ, hw, ih k (i + 1) (by omega) (by omega)]
    simp only [Option.bind_some]
    unfold has
    by_cases h1 : Lib.indexByte dirs.data.toList (bt s (i : Int)).toNat.toUInt8 < 0
    · rw [if_pos h1]; simp [h1]
    · rw [if_neg h1]; simp [h1]
theorem mvSteps_eq (s : ByteArray) (k : Nat) (hn : s.size ≤ 9223372036854775807) (hk : s.size + 12 < k) : spec_mvSteps.f k s = some (from_ (has dirs s) 0 s.size) := mvSteps_l0 s hn s.size k 0 (by omega) hk
/-- Both tell the same of a movement. -/
theorem move_same (s : ByteArray) (r : Int) (k : Nat) (hn : s.size ≤ 9223372036854775807) (hk : s.size + 12 < k) : ∃ b, spec_mvGood.f k s r = some b ∧ impl_IsMove.f k s r = some b := by
  unfold spec_mvGood.f impl_IsMove.f
  rw [show (⟨#[117, 100, 108, 114, 102, 98]⟩ : ByteArray) = dirs from rfl, mvSteps_eq s k hn hk, hasOnly_eq dirs s k hn (by omega)]
  by_cases h6 : (s.size : Int) ≤ 6
  · rw [if_pos h6, if_pos h6]
    simp only [in_some, within_some, Option.bind_some]
    cases from_ (has dirs s) 0 s.size
    · exact ⟨false, rfl, rfl⟩
    · cases decide (1 ≤ r ∧ r ≤ 3)
      · exact ⟨false, rfl, rfl⟩
      · by_cases he : s.toList = []
        · exact ⟨r == 1, by simp [he], by simp [he]⟩
        · exact ⟨true, by simp [he], by simp [he]⟩
  · rw [if_neg h6, if_neg h6]; exact ⟨false, rfl, rfl⟩
end Go.Proofs.Ytkhaofalaikegaa.MFnExactIsMove
