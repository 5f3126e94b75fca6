/- Plain words on letters that have a shape. -/
import Derived.Test.YtopmmmggjohkeaaMS
import Derived.Test.YtopmmmggjohkeaaFAx18
import Derived.Test.YtopmmmggjohkeaaFAx20 -- home: spec_fsLetters.f impl_lettersFor.f
namespace Go.Proofs.Ytopmmmggjohkeaa.MS
open Go.RowKit Go.Proofs.Ytopmmmggjohkeaa.MB Go.Proofs.Ytopmmmggjohkeaa.FA Go.Proofs.YtopmmmggjohkeaaW.PrintWords Go.Proofs.YtopmmmggjohkeaaW.PrintLast Go.Proofs.YtopmmmggjohkeaaW.PrintMore
/-- The letter at a place. -/
def letter (i : Nat) : ByteArray := caps.extract i (i + 1)
theorem letter_fin : ∀ i ∈ List.range 26, (strOfNums [(wrap64 (65 + (i : Int))) % 256]).data.toList = (letter i).data.toList ∧ (letter i).size = 1 := by decide +kernel
theorem ba_ext {a b : ByteArray} (h : a.data.toList = b.data.toList) : a = b := by
  cases a; cases b; simp only [ByteArray.mk.injEq]; exact Array.toList_inj.1 h
theorem letter_eq {i : Nat} (h : i < 26) : strOfNums [(wrap64 (65 + (i : Int))) % 256] = letter i := ba_ext (letter_fin i (List.mem_range.2 h)).1
theorem letter_size {i : Nat} (h : i < 26) : (letter i).size = 1 := (letter_fin i (List.mem_range.2 h)).2
/-- The letters from i on that have a shape, behind those before. -/
def letsFrom (l : List Int) (x : Int) : ByteArray → Nat → Nat → ByteArray
  | a, _, 0 => a
  | a, i, d + 1 => letsFrom l x (if rd l (i : Int) = x then a ++ letter i else a) (i + 1) d
def lets (l : List Int) (x : Int) : ByteArray := letsFrom l x ⟨#[]⟩ 0 26
theorem fsLetters_l0 (l : List Int) (hl : l.length = 26) (x : Int) : ∀ (d k i : Nat) (a : ByteArray), a.size ≤ i → i + d = 26 → d < k → spec_fsLetters.l0 k x a l (l.length : Int) (i : Int) = some (letsFrom l x a i d) := by
  intro d
  induction d with
  | zero =>
    intro k i a ha hi hk
    obtain ⟨k, rfl⟩ : ∃ q, k = q + 1 := ⟨k - 1, by omega⟩
    simp only [spec_fsLetters.l0]
    rw [if_neg (by omega)]; rfl
  | succ d ih =>
    intro k i a ha hi hk
    obtain ⟨k, rfl⟩ : ∃ q, k = q + 1 := ⟨k - 1, by omega⟩
    simp only [spec_fsLetters.l0]
    rw [if_pos (by omega), if_pos (by omega), if_pos (by omega), up (n := l.length) (by omega) (by omega)]
    unfold letsFrom
    have hs := letter_size (i := i) (by omega)
    by_cases he : rd l (i : Int) = x
    · rw [if_pos he, if_pos he]
      simp only [Option.bind_some]
      rw [letter_eq (by omega), if_pos (by omega)]
      exact ih k (i + 1) _ (by rw [ByteArray.size_append]; omega) (by omega) (by omega)
    · rw [if_neg he, if_neg he]
      exact ih k (i + 1) a (by omega) (by omega) (by omega)
theorem lets_spec (l : List Int) (hl : l.length = 26) (x : Int) (k : Nat) (hk : 26 < k) : spec_fsLetters.f k l x = some (lets l x) := fsLetters_l0 l hl x 26 k 0 _ (by decide) (by omega) hk
theorem lettersFor_l0 (l : List Int) (hl : l.length = 26) (x : Int) : ∀ (d k i : Nat) (a : ByteArray), a.size ≤ i → i + d = 26 → d < k → impl_lettersFor.l0 k x a l (l.length : Int) (i : Int) = some (letsFrom l x a i d) := by
  intro d
  induction d with
  | zero =>
    intro k i a ha hi hk
    obtain ⟨k, rfl⟩ : ∃ q, k = q + 1 := ⟨k - 1, by omega⟩
    simp only [impl_lettersFor.l0]
    rw [if_neg (by omega)]; rfl
  | succ d ih =>
    intro k i a ha hi hk
    obtain ⟨k, rfl⟩ : ∃ q, k = q + 1 := ⟨k - 1, by omega⟩
    simp only [impl_lettersFor.l0]
    rw [if_pos (by omega), if_pos (by omega), if_pos (by omega), up (n := l.length) (by omega) (by omega)]
    unfold letsFrom
    have hs := letter_size (i := i) (by omega)
    by_cases he : rd l (i : Int) = x
    · rw [if_pos he, if_pos he, if_pos (by omega), if_pos (by omega), Int.toNat_natCast, Int.toNat_natCast]
      rw [show (⟨#[65, 66, 67, 68, 69, 70, 71, 72, 73, 74, 75, 76, 77, 78, 79, 80, 81, 82, 83, 84, 85, 86, 87, 88, 89, 90]⟩ : ByteArray).extract i (i + 1) = letter i from rfl, if_pos (by omega)]
      exact ih k (i + 1) _ (by rw [ByteArray.size_append]; omega) (by omega) (by omega)
    · rw [if_neg he, if_neg he]
      exact ih k (i + 1) a (by omega) (by omega) (by omega)
theorem lets_impl (l : List Int) (hl : l.length = 26) (x : Int) (k : Nat) (hk : 26 < k) : impl_lettersFor.f k l x = some (lets l x) := lettersFor_l0 l hl x 26 k 0 _ (by decide) (by omega) hk
theorem letsFrom_size (l : List Int) (x : Int) : ∀ (d i : Nat) (a : ByteArray), a.size ≤ i → i + d ≤ 26 → (letsFrom l x a i d).size ≤ i + d
  | 0, i, a, h, _ => h
  | d + 1, i, a, h, h2 => by
    have hs := letter_size (i := i) (by omega)
    unfold letsFrom
    have := letsFrom_size l x d (i + 1) (if rd l (i : Int) = x then a ++ letter i else a) (by split <;> (try rw [ByteArray.size_append]) <;> omega) (by omega)
    omega
theorem lets_size (l : List Int) (x : Int) : (lets l x).size ≤ 26 := letsFrom_size l x 26 0 _ (by decide) (by omega)
end Go.Proofs.Ytopmmmggjohkeaa.MS
