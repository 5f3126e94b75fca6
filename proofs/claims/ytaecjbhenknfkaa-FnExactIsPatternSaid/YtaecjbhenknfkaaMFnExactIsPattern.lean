/- The words that the plain law behind FnExactIsPattern needs. -/
import Derived.Test.YtaecjbhenknfkaaFAx2
import Derived.Test.YtaecjbhenknfkaaFAx4
import Derived.Test.YtaecjbhenknfkaaFAx45
import Derived.Test.YtaecjbhenknfkaaFAx46
import Derived.Test.YtaecjbhenknfkaaFAx47
import Derived.Test.YtaecjbhenknfkaaFAx48 -- home: impl_IsPattern.f impl_hasOnly.f impl_within.f spec_l1In.f spec_seGood.f spec_seIn.f spec_seWild.f strings_IndexByte.f
namespace Go.Proofs.Ytaecjbhenknfkaa.MFnExactIsPattern
open Go.RowKit Go.Proofs.Ytaecjbhenknfkaa.FA Go.Proofs.YtaecjbhenknfkaaW.PrintWords Go.Proofs.YtaecjbhenknfkaaW.PrintLast Go.Proofs.YtaecjbhenknfkaaW.PrintMore
set_option linter.unusedVariables false

theorem in_some (a b c : Int) : spec_l1In.f a b c = some (decide (b ≤ a ∧ a ≤ c)) := by
  unfold spec_l1In.f
  by_cases h : b ≤ a <;> simp [h]
theorem within_some (a b c : Int) : impl_within.f a b c = some (decide (b ≤ a ∧ a ≤ c)) := by
  unfold impl_within.f
  by_cases h : b ≤ a <;> simp [h]
/-- Do all the places from one on, so many, hold? -/
def from_ (p : Nat → Bool) (i d : Nat) : Bool := (List.range' i d).all p
theorem from_zero (p : Nat → Bool) (i : Nat) : from_ p i 0 = true := rfl
theorem from_succ (p : Nat → Bool) (i d : Nat) : from_ p i (d + 1) = (p i && from_ p (i + 1) d) := by
  unfold from_; rw [List.range'_succ, List.all_cons]
/-- Does the byte at a place stand among some letters? -/
def has (C s : ByteArray) (i : Nat) : Bool := decide (¬ Lib.indexByte C.data.toList (bt s (i : Int)).toNat.toUInt8 < 0)
theorem hasOnly_any (C s : ByteArray) (hn : s.size ≤ 9223372036854775807) : ∀ (d k i : Nat), i + d = s.size → d < k →
    impl_hasOnly.l0 k s C (s.size : Int) (i : Int) = some (from_ (has C s) i d) := by
  intro d
  induction d with
  | zero =>
    intro k i hi hk
    obtain ⟨k, rfl⟩ : ∃ q, k = q + 1 := ⟨k - 1, by omega⟩
    simp only [impl_hasOnly.l0]
    rw [if_neg (by omega), from_zero]
  | succ d ih =>
    intro k i hi hk
    obtain ⟨k, rfl⟩ : ∃ q, k = q + 1 := ⟨k - 1, by omega⟩
    have hw : wrap64 ((i : Int) + 1) = ((i + 1 : Nat) : Int) := by unfold wrap64; omega
    simp only [impl_hasOnly.l0, strings_IndexByte.f]
    rw [if_pos (by omega), if_pos (by omega), if_pos (by omega), from_succ, hw, ih k (i + 1) (by omega) (by omega)]
    simp only [Option.bind_some]
    unfold has
    by_cases h1 : Lib.indexByte C.data.toList (bt s (i : Int)).toNat.toUInt8 < 0
    · rw [if_pos h1]; simp [h1]
    · rw [if_neg h1]; simp [h1]
theorem hasOnly_eq (C s : ByteArray) (k : Nat) (hn : s.size ≤ 9223372036854775807) (hk : s.size < k) : impl_hasOnly.f k s C = some (from_ (has C s) 0 s.size) := hasOnly_any C s hn s.size k 0 (by omega) hk
/-- The letters C' are the letters C and the question mark. -/
def Asks (C C' : ByteArray) : Prop := ∀ n ∈ List.range 256, (if (n : Int) = 63 then some true else spec_seIn.f 10 C (n : Int)) = some (decide (¬ Lib.indexByte C'.data.toList (n : Int).toNat.toUInt8 < 0))
theorem asks_at {C C' : ByteArray} (h : Asks C C') (s : ByteArray) (i : Nat) (k : Nat) (hk : 10 ≤ k) : (if bt s (i : Int) = 63 then some true else spec_seIn.f k C (bt s (i : Int))) = some (has C' s i) := by
  obtain ⟨h0, h1⟩ := bt_range s (i : Int)
  have h := h (bt s (i : Int)).toNat (List.mem_range.2 (by omega))
  rw [Int.toNat_of_nonneg h0] at h
  unfold has
  by_cases hq : bt s (i : Int) = 63
  · rw [if_pos hq] at h ⊢; exact h
  · rw [if_neg hq] at h ⊢
    exact at_rounds (g := fun k => spec_seIn.f k C (bt s (i : Int))) (fun k => spec_seIn.mono _ _ k) hk h
theorem wild_l0 {C C' : ByteArray} (h : Asks C C') (s : ByteArray) (hn : s.size ≤ 9223372036854775807) : ∀ (d k i : Nat), i + d = s.size → d + 12 < k →
    spec_seWild.l0 k s C (i : Int) = some (from_ (has C' s) i d) := by
  intro d
  induction d with
  | zero =>
    intro k i hi hk
    obtain ⟨k, rfl⟩ : ∃ q, k = q + 1 := ⟨k - 1, by omega⟩
    simp only [spec_seWild.l0]
    rw [if_neg (by omega), from_zero]
  | succ d ih =>
    intro k i hi hk
    obtain ⟨k, rfl⟩ : ∃ q, k = q + 1 := ⟨k - 1, by omega⟩
    have hw : wrap64 ((i : Int) + 1) = ((i + 1 : Nat) : Int) := by unfold wrap64; omega
    simp only [spec_seWild.l0]
    rw [if_pos (by omega), if_pos (by omega), from_succ, hw, ih k (i + 1) (by omega) (by omega)]
    have ha := asks_at h s i k (by omega)
    by_cases hq : bt s (i : Int) = 63
    · rw [if_pos hq] at ha ⊢; rw [← Option.some.inj ha]; simp
    · rw [if_neg hq] at ha ⊢; rw [ha]; cases has C' s i <;> simp
theorem wild_eq {C C' : ByteArray} (h : Asks C C') (s : ByteArray) (n : Int) (k : Nat) (hn : s.size ≤ 9223372036854775807) (hk : s.size + 12 < k) :
    spec_seWild.f k s C n = some (decide ((s.size : Int) = n) && from_ (has C' s) 0 s.size) := by
  unfold spec_seWild.f
  have e := wild_l0 h s hn s.size k 0 (by omega) hk
  by_cases hs : (s.size : Int) = n
  · rw [if_pos hs]; simp only [hs, decide_true, Bool.true_and]; exact e
  · rw [if_neg hs]; simp [hs]
/-- The letters of the fingers, of the directions, and of the steps. -/
def F0 : ByteArray := ⟨#[48, 49, 50]⟩
def F1 : ByteArray := ⟨#[48, 49, 50, 63]⟩
def D0 : ByteArray := ⟨#[117, 100, 108, 114, 102, 98]⟩
def D1 : ByteArray := ⟨#[117, 100, 108, 114, 102, 98, 63]⟩
def S0 : ByteArray := ⟨#[117, 100, 108, 114, 102, 98, 42]⟩
def S1 : ByteArray := ⟨#[117, 100, 108, 114, 102, 98, 63, 42]⟩
theorem asksF : Asks F0 F1 := by unfold Asks; decide +kernel
theorem asksD : Asks D0 D1 := by unfold Asks; decide +kernel
theorem asksS : Asks S0 S1 := by unfold Asks; decide +kernel
/-- Is this a pattern? -/
def pattern (a b : ByteArray) (c : Int) (d : ByteArray) (e : Int) : Bool :=
  (decide ((a.size : Int) = 5) && from_ (has F1 a) 0 a.size) && ((decide ((b.size : Int) = 2) && from_ (has D1 b) 0 b.size) && (decide (-1 ≤ c ∧ c ≤ 9) && (decide ((d.size : Int) ≤ 20) && (from_ (has S1 d) 0 d.size && decide (0 ≤ e ∧ e ≤ 2)))))
theorem pattern_spec (a b : ByteArray) (c : Int) (d : ByteArray) (e : Int) (k : Nat) (ha : a.size ≤ 9223372036854775807) (hb : b.size ≤ 9223372036854775807) (hd : d.size ≤ 9223372036854775807) (hk : a.size + b.size + d.size + 12 < k) :
    spec_seGood.f k a b c d e = some (pattern a b c d e) := by
  have e1 : spec_seWild.f k a (⟨#[48, 49, 50]⟩ : ByteArray) 5 = _ := wild_eq asksF a 5 k ha (by omega)
  have e2 : spec_seWild.f k b (⟨#[117, 100, 108, 114, 102, 98]⟩ : ByteArray) 2 = _ := wild_eq asksD b 2 k hb (by omega)
  have e3 : spec_seWild.f k d (⟨#[117, 100, 108, 114, 102, 98, 42]⟩ : ByteArray) (d.size : Int) = _ := wild_eq asksS d _ k hd (by omega)
  unfold spec_seGood.f pattern
  rw [e1, e2, e3, in_some, in_some]
  simp only [Option.bind_some]
  by_cases hs : (d.size : Int) ≤ 20
  · rw [if_pos hs]
    cases decide ((a.size : Int) = 5) && from_ (has F1 a) 0 a.size <;> cases decide ((b.size : Int) = 2) && from_ (has D1 b) 0 b.size <;> cases decide (-1 ≤ c ∧ c ≤ 9) <;> cases from_ (has S1 d) 0 d.size <;> simp [hs]
  · rw [if_neg hs]
    cases decide ((a.size : Int) = 5) && from_ (has F1 a) 0 a.size <;> cases decide ((b.size : Int) = 2) && from_ (has D1 b) 0 b.size <;> cases decide (-1 ≤ c ∧ c ≤ 9) <;> simp [hs]
theorem pattern_impl (a b : ByteArray) (c : Int) (d : ByteArray) (e : Int) (k : Nat) (ha : a.size ≤ 9223372036854775807) (hb : b.size ≤ 9223372036854775807) (hd : d.size ≤ 9223372036854775807) (hk : a.size + b.size + d.size + 12 < k) :
    impl_IsPattern.f k a b c d e = some (pattern a b c d e) := by
  have e1 : impl_hasOnly.f k a (⟨#[48, 49, 50, 63]⟩ : ByteArray) = _ := hasOnly_eq F1 a k ha (by omega)
  have e2 : impl_hasOnly.f k b (⟨#[117, 100, 108, 114, 102, 98, 63]⟩ : ByteArray) = _ := hasOnly_eq D1 b k hb (by omega)
  have e3 : impl_hasOnly.f k d (⟨#[117, 100, 108, 114, 102, 98, 63, 42]⟩ : ByteArray) = _ := hasOnly_eq S1 d k hd (by omega)
  unfold impl_IsPattern.f pattern
  rw [e1, e2, e3, within_some, within_some]
  simp only [Option.bind_some]
  generalize from_ (has F1 a) 0 a.size = q1
  generalize from_ (has D1 b) 0 b.size = q2
  generalize from_ (has S1 d) 0 d.size = q3
  by_cases h1 : (a.size : Int) = 5 <;> by_cases h2 : (b.size : Int) = 2 <;> by_cases h3 : (d.size : Int) ≤ 20 <;> cases q1 <;> cases q2 <;> cases q3 <;> cases decide (-1 ≤ c ∧ c ≤ 9) <;> simp [h1, h2, h3]
end Go.Proofs.Ytaecjbhenknfkaa.MFnExactIsPattern
