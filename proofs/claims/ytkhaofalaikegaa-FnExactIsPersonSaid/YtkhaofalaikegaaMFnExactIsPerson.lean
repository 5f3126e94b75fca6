/- The words that the plain law behind FnExactIsPerson needs. -/
import Derived.Test.YtkhaofalaikegaaFAx2
import Derived.Test.YtkhaofalaikegaaFAx3
import Derived.Test.YtkhaofalaikegaaFAx4
import Derived.Test.YtkhaofalaikegaaFAx13
import Derived.Test.YtkhaofalaikegaaFAx48
import Derived.Test.YtkhaofalaikegaaFAx49 -- home: impl_IsPerson.f impl_hasOnly.f impl_isWordOf.f impl_isYear.f impl_within.f spec_l1In.f spec_naLetter.f spec_naName.f spec_naOne.f spec_naPlace.f spec_naYear.f strings_IndexByte.f
namespace Go.Proofs.Ytkhaofalaikegaa.MFnExactIsPerson
open Go.RowKit Go.Proofs.Ytkhaofalaikegaa.FA Go.Proofs.YtkhaofalaikegaaW.PrintWords Go.Proofs.YtkhaofalaikegaaW.PrintLast Go.Proofs.YtkhaofalaikegaaW.PrintMore
set_option linter.unusedVariables false

theorem in_some (a b c : Int) : spec_l1In.f a b c = some (decide (b ≤ a ∧ a ≤ c)) := by
  unfold spec_l1In.f
  by_cases h : b ≤ a <;> simp [h]
theorem within_some (a b c : Int) : impl_within.f a b c = some (decide (b ≤ a ∧ a ≤ c)) := by
  unfold impl_within.f
  by_cases h : b ≤ a <;> simp [h]
/-- Something holds for the d places from i on. -/
def from_ (p : Nat → Bool) (i d : Nat) : Bool := (List.range' i d).all p
theorem from_zero (p : Nat → Bool) (i : Nat) : from_ p i 0 = true := rfl
theorem from_succ (p : Nat → Bool) (i d : Nat) : from_ p i (d + 1) = (p i && from_ p (i + 1) d) := by
  unfold from_; rw [List.range'_succ]; rfl
/-- Does the byte at a place stand among some letters? -/
def has (C s : ByteArray) (i : Nat) : Bool := decide (¬ Lib.indexByte C.data.toList (bt s (i : Int)).toNat.toUInt8 < 0)
theorem hasOnly_any (C s : ByteArray) (hn : s.size ≤ 9223372036854775807) : ∀ (d k i : Nat), i + d = s.size → d < k →
    impl_hasOnly.l0 k s C (s.size : Int) (i : Int) = some (from_ (has C s) i d) := by
  intro d
  induction d with
  | zero =>
    intro k i hi hk
    obtain ⟨k, rfl⟩ : ∃ q, k = q + 1 := ⟨k - 1, by omega⟩
    simp only [impl_hasOnly.l0]
    rw [if_neg (by omega), from_zero]
  | succ d ih =>
    intro k i hi hk
    obtain ⟨k, rfl⟩ : ∃ q, k = q + 1 := ⟨k - 1, by omega⟩
    have hw : wrap64 ((i : Int) + 1) = ((i + 1 : Nat) : Int) := by unfold wrap64; omega
    simp only [impl_hasOnly.l0, strings_IndexByte.f]
    rw [if_pos (by omega), if_pos (by omega), if_pos (by omega), from_succ, hw, ih k (i + 1) (by omega) (by omega)]
    simp only [Option.bind_some]
    unfold has
    by_cases h1 : Lib.indexByte C.data.toList (bt s (i : Int)).toNat.toUInt8 < 0
    · rw [if_pos h1]; simp [h1]
    · rw [if_neg h1]; simp [h1]
theorem hasOnly_eq (C s : ByteArray) (k : Nat) (hn : s.size ≤ 9223372036854775807) (hk : s.size < k) : impl_hasOnly.f k s C = some (from_ (has C s) 0 s.size) := hasOnly_any C s hn s.size k 0 (by omega) hk
/-- The small letters. -/
def smalls : ByteArray := ⟨#[97, 98, 99, 100, 101, 102, 103, 104, 105, 106, 107, 108, 109, 110, 111, 112, 113, 114, 115, 116, 117, 118, 119, 120, 121, 122]⟩
theorem smalls_fin : ∀ n ∈ List.range 256, decide (¬ Lib.indexByte smalls.data.toList (n : Int).toNat.toUInt8 < 0) = decide (97 ≤ n ∧ n ≤ 122) := by decide +kernel
theorem smalls_has (s : ByteArray) (i : Nat) : has smalls s i = decide (97 ≤ bt s (i : Int) ∧ bt s (i : Int) ≤ 122) := by
  obtain ⟨h0, h1⟩ := bt_range s (i : Int)
  have h := smalls_fin (bt s i).toNat (List.mem_range.2 (by omega))
  rw [Int.toNat_of_nonneg h0] at h
  unfold has
  rw [h]
  exact decide_eq_decide.2 ⟨fun h => by omega, fun h => by omega⟩
theorem naName_l0 (s : ByteArray) (hn : s.size ≤ 9223372036854775807) : ∀ (d k i : Nat), i + d = s.size → d < k →
    spec_naName.l0 k s (i : Int) = some (from_ (has smalls s) i d && decide (1 ≤ (s.size : Int) ∧ (s.size : Int) ≤ 8)) := by
  intro d
  induction d with
  | zero =>
    intro k i hi hk
    obtain ⟨k, rfl⟩ : ∃ q, k = q + 1 := ⟨k - 1, by omega⟩
    simp only [spec_naName.l0]
    rw [if_neg (by omega), from_zero, in_some]; rfl
  | succ d ih =>
    intro k i hi hk
    obtain ⟨k, rfl⟩ : ∃ q, k = q + 1 := ⟨k - 1, by omega⟩
    have hw : wrap64 ((i : Int) + 1) = ((i + 1 : Nat) : Int) := by unfold wrap64; omega
    simp only [spec_naName.l0]
    rw [if_pos (by omega), if_pos (by omega), from_succ, hw, ih k (i + 1) (by omega) (by omega), smalls_has]
    by_cases h1 : bt s (i : Int) < 97
    · rw [if_pos h1]; simp [show ¬ (97 ≤ bt s (i : Int)) from by omega]
    · rw [if_neg h1]
      by_cases h2 : bt s (i : Int) > 122
      · rw [if_pos h2]; simp [show ¬ (bt s (i : Int) ≤ 122) from by omega]
      · rw [if_neg h2]; simp [show 97 ≤ bt s (i : Int) from by omega, show bt s (i : Int) ≤ 122 from by omega]
/-- Is this a person? -/
def person (s : ByteArray) (a b c : Int) : Bool := from_ (has smalls s) 0 s.size && (decide (1 ≤ (s.size : Int) ∧ (s.size : Int) ≤ 8) && (decide (0 ≤ a ∧ a ≤ 25) && (decide (0 ≤ b ∧ b ≤ 9) && decide (1800 ≤ c ∧ c ≤ 2200))))
theorem person_spec (s : ByteArray) (a b c : Int) (k : Nat) (hn : s.size ≤ 9223372036854775807) (hk : s.size < k) : spec_naOne.f k s a b c = some (person s a b c) := by
  have h : spec_naName.f k s = some _ := naName_l0 s hn s.size k 0 (by omega) hk
  unfold spec_naOne.f person spec_naLetter.f spec_naPlace.f spec_naYear.f
  rw [h]
  simp only [in_some, Option.bind_some]
  cases from_ (has smalls s) 0 s.size <;> cases decide (1 ≤ (s.size : Int) ∧ (s.size : Int) ≤ 8) <;> cases decide (0 ≤ a ∧ a ≤ 25) <;> cases decide (0 ≤ b ∧ b ≤ 9) <;> simp
theorem person_impl (s : ByteArray) (a b c : Int) (k : Nat) (hn : s.size ≤ 9223372036854775807) (hk : s.size < k) : impl_IsPerson.f k s a b c = some (person s a b c) := by
  unfold impl_IsPerson.f person impl_isWordOf.f impl_isYear.f
  rw [show (⟨#[97, 98, 99, 100, 101, 102, 103, 104, 105, 106, 107, 108, 109, 110, 111, 112, 113, 114, 115, 116, 117, 118, 119, 120, 121, 122]⟩ : ByteArray) = smalls from rfl, hasOnly_eq smalls s k hn hk]
  simp only [within_some, Option.bind_some]
  cases from_ (has smalls s) 0 s.size <;> cases decide (1 ≤ (s.size : Int) ∧ (s.size : Int) ≤ 8) <;> cases decide (0 ≤ a ∧ a ≤ 25) <;> cases decide (0 ≤ b ∧ b ≤ 9) <;> simp
/-! shapes, orientations, places -/
end Go.Proofs.Ytkhaofalaikegaa.MFnExactIsPerson
