/- The words that the plain law behind FnExactIsWeaker needs. -/
import Derived.Test.YtkhaofalaikegaaFAx2
import Derived.Test.YtkhaofalaikegaaFAx3
import Derived.Test.YtkhaofalaikegaaFAx4
import Derived.Test.YtkhaofalaikegaaFAx30
import Derived.Test.YtkhaofalaikegaaFAx31
import Derived.Test.YtkhaofalaikegaaFAx32
import Derived.Test.YtkhaofalaikegaaFAx33
import Derived.Test.YtkhaofalaikegaaFAx34
import Derived.Test.YtkhaofalaikegaaFAx35
import Derived.Test.YtkhaofalaikegaaFAx36 -- home: impl_IsPattern.f impl_IsWeaker.f impl_apart.f impl_hasOnly.f impl_within.f laws_szPattern.f spec_IsWeaker.f spec_l1In.f spec_seGood.f spec_seIn.f spec_seMissed.f spec_seWild.f strings_IndexByte.f
namespace Go.Proofs.Ytkhaofalaikegaa.MFnExactIsWeaker
open Go.RowKit Go.Proofs.Ytkhaofalaikegaa.FA Go.Proofs.YtkhaofalaikegaaW.PrintWords Go.Proofs.YtkhaofalaikegaaW.PrintLast Go.Proofs.YtkhaofalaikegaaW.PrintMore
set_option linter.unusedVariables false

theorem in_some (a b c : Int) : spec_l1In.f a b c = some (decide (b ≤ a ∧ a ≤ c)) := by
  unfold spec_l1In.f
  by_cases h : b ≤ a <;> simp [h]
theorem within_some (a b c : Int) : impl_within.f a b c = some (decide (b ≤ a ∧ a ≤ c)) := by
  unfold impl_within.f
  by_cases h : b ≤ a <;> simp [h]
/-- Do all the places from one on, so many, hold? -/
def from_ (p : Nat → Bool) (i d : Nat) : Bool := (List.range' i d).all p
theorem from_zero (p : Nat → Bool) (i : Nat) : from_ p i 0 = true := rfl
theorem from_succ (p : Nat → Bool) (i d : Nat) : from_ p i (d + 1) = (p i && from_ p (i + 1) d) := by
  unfold from_; rw [List.range'_succ, List.all_cons]
/-- Does the byte at a place stand among some letters? -/
def has (C s : ByteArray) (i : Nat) : Bool := decide (¬ Lib.indexByte C.data.toList (bt s (i : Int)).toNat.toUInt8 < 0)
theorem hasOnly_any (C s : ByteArray) (hn : s.size ≤ 9223372036854775807) : ∀ (d k i : Nat), i + d = s.size → d < k →
    impl_hasOnly.l0 k s C (s.size : Int) (i : Int) = some (from_ (has C s) i d) := by
  intro d
  induction d with
  | zero =>
    intro k i hi hk
    obtain ⟨k, rfl⟩ : ∃ q, k = q + 1 := ⟨k - 1, by omega⟩
    simp only [impl_hasOnly.l0]
    rw [if_neg (by omega), from_zero]
  | succ d ih =>
    intro k i hi hk
    obtain ⟨k, rfl⟩ : ∃ q, k = q + 1 := ⟨k - 1, by omega⟩
    have hw : wrap64 ((i : Int) + 1) = ((i + 1 : Nat) : Int) := by unfold wrap64; omega
    simp only [impl_hasOnly.l0, strings_IndexByte.f]
    rw [if_pos (by omega), if_pos (by omega), if_pos (by omega), from_succ, hw, ih k (i + 1) (by omega) (by omega)]
    simp only [Option.bind_some]
    unfold has
    by_cases h1 : Lib.indexByte C.data.toList (bt s (i : Int)).toNat.toUInt8 < 0
    · rw [if_pos h1]; simp [h1]
    · rw [if_neg h1]; simp [h1]
theorem hasOnly_eq (C s : ByteArray) (k : Nat) (hn : s.size ≤ 9223372036854775807) (hk : s.size < k) : impl_hasOnly.f k s C = some (from_ (has C s) 0 s.size) := hasOnly_any C s hn s.size k 0 (by omega) hk
/-- The letters C' are the letters C and the question mark. -/
def Asks (C C' : ByteArray) : Prop := ∀ n ∈ List.range 256, (if (n : Int) = 63 then some true else spec_seIn.f 10 C (n : Int)) = some (decide (¬ Lib.indexByte C'.data.toList (n : Int).toNat.toUInt8 < 0))
theorem asks_at {C C' : ByteArray} (h : Asks C C') (s : ByteArray) (i : Nat) (k : Nat) (hk : 10 ≤ k) : (if bt s (i : Int) = 63 then some true else spec_seIn.f k C (bt s (i : Int))) = some (has C' s i) := by
  obtain ⟨h0, h1⟩ := bt_range s (i : Int)
  have h := h (bt s (i : Int)).toNat (List.mem_range.2 (by omega))
  rw [Int.toNat_of_nonneg h0] at h
  unfold has
  by_cases hq : bt s (i : Int) = 63
  · rw [if_pos hq] at h ⊢; exact h
  · rw [if_neg hq] at h ⊢
    exact at_rounds (g := fun k => spec_seIn.f k C (bt s (i : Int))) (fun k => spec_seIn.mono _ _ k) hk h
theorem wild_l0 {C C' : ByteArray} (h : Asks C C') (s : ByteArray) (hn : s.size ≤ 9223372036854775807) : ∀ (d k i : Nat), i + d = s.size → d + 12 < k →
    spec_seWild.l0 k s C (i : Int) = some (from_ (has C' s) i d) := by
  intro d
  induction d with
  | zero =>
    intro k i hi hk
    obtain ⟨k, rfl⟩ : ∃ q, k = q + 1 := ⟨k - 1, by omega⟩
    simp only [spec_seWild.l0]
    rw [if_neg (by omega), from_zero]
  | succ d ih =>
    intro k i hi hk
    obtain ⟨k, rfl⟩ : ∃ q, k = q + 1 := ⟨k - 1, by omega⟩
    have hw : wrap64 ((i : Int) + 1) = ((i + 1 : Nat) : Int) := by unfold wrap64; omega
    simp only [spec_seWild.l0]
    rw [if_pos (by omega), if_pos (by omega), from_succ, hw, ih k (i + 1) (by omega) (by omega)]
    have ha := asks_at h s i k (by omega)
    by_cases hq : bt s (i : Int) = 63
    · rw [if_pos hq] at ha ⊢; rw [← Option.some.inj ha]; simp
    · rw [if_neg hq] at ha ⊢; rw [ha]; cases has C' s i <;> simp
theorem wild_eq {C C' : ByteArray} (h : Asks C C') (s : ByteArray) (n : Int) (k : Nat) (hn : s.size ≤ 9223372036854775807) (hk : s.size + 12 < k) :
    spec_seWild.f k s C n = some (decide ((s.size : Int) = n) && from_ (has C' s) 0 s.size) := by
  unfold spec_seWild.f
  have e := wild_l0 h s hn s.size k 0 (by omega) hk
  by_cases hs : (s.size : Int) = n
  · rw [if_pos hs]; simp only [hs, decide_true, Bool.true_and]; exact e
  · rw [if_neg hs]; simp [hs]
/-- The letters of the fingers, of the directions, and of the steps. -/
def F0 : ByteArray := ⟨#[48, 49, 50]⟩
def F1 : ByteArray := ⟨#[48, 49, 50, 63]⟩
def D0 : ByteArray := ⟨#[117, 100, 108, 114, 102, 98]⟩
def D1 : ByteArray := ⟨#[117, 100, 108, 114, 102, 98, 63]⟩
def S0 : ByteArray := ⟨#[117, 100, 108, 114, 102, 98, 42]⟩
def S1 : ByteArray := ⟨#[117, 100, 108, 114, 102, 98, 63, 42]⟩
theorem asksF : Asks F0 F1 := by unfold Asks; decide +kernel
theorem asksD : Asks D0 D1 := by unfold Asks; decide +kernel
theorem asksS : Asks S0 S1 := by unfold Asks; decide +kernel
/-- Is this a pattern? -/
def pattern (a b : ByteArray) (c : Int) (d : ByteArray) (e : Int) : Bool :=
  (decide ((a.size : Int) = 5) && from_ (has F1 a) 0 a.size) && ((decide ((b.size : Int) = 2) && from_ (has D1 b) 0 b.size) && (decide (-1 ≤ c ∧ c ≤ 9) && (decide ((d.size : Int) ≤ 20) && (from_ (has S1 d) 0 d.size && decide (0 ≤ e ∧ e ≤ 2)))))
theorem pattern_spec (a b : ByteArray) (c : Int) (d : ByteArray) (e : Int) (k : Nat) (ha : a.size ≤ 9223372036854775807) (hb : b.size ≤ 9223372036854775807) (hd : d.size ≤ 9223372036854775807) (hk : a.size + b.size + d.size + 12 < k) :
    spec_seGood.f k a b c d e = some (pattern a b c d e) := by
  have e1 : spec_seWild.f k a (⟨#[48, 49, 50]⟩ : ByteArray) 5 = _ := wild_eq asksF a 5 k ha (by omega)
  have e2 : spec_seWild.f k b (⟨#[117, 100, 108, 114, 102, 98]⟩ : ByteArray) 2 = _ := wild_eq asksD b 2 k hb (by omega)
  have e3 : spec_seWild.f k d (⟨#[117, 100, 108, 114, 102, 98, 42]⟩ : ByteArray) (d.size : Int) = _ := wild_eq asksS d _ k hd (by omega)
  unfold spec_seGood.f pattern
  rw [e1, e2, e3, in_some, in_some]
  simp only [Option.bind_some]
  by_cases hs : (d.size : Int) ≤ 20
  · rw [if_pos hs]
    cases decide ((a.size : Int) = 5) && from_ (has F1 a) 0 a.size <;> cases decide ((b.size : Int) = 2) && from_ (has D1 b) 0 b.size <;> cases decide (-1 ≤ c ∧ c ≤ 9) <;> cases from_ (has S1 d) 0 d.size <;> simp [hs]
  · rw [if_neg hs]
    cases decide ((a.size : Int) = 5) && from_ (has F1 a) 0 a.size <;> cases decide ((b.size : Int) = 2) && from_ (has D1 b) 0 b.size <;> cases decide (-1 ≤ c ∧ c ≤ 9) <;> simp [hs]
theorem pattern_impl (a b : ByteArray) (c : Int) (d : ByteArray) (e : Int) (k : Nat) (ha : a.size ≤ 9223372036854775807) (hb : b.size ≤ 9223372036854775807) (hd : d.size ≤ 9223372036854775807) (hk : a.size + b.size + d.size + 12 < k) :
    impl_IsPattern.f k a b c d e = some (pattern a b c d e) := by
  have e1 : impl_hasOnly.f k a (⟨#[48, 49, 50, 63]⟩ : ByteArray) = _ := hasOnly_eq F1 a k ha (by omega)
  have e2 : impl_hasOnly.f k b (⟨#[117, 100, 108, 114, 102, 98, 63]⟩ : ByteArray) = _ := hasOnly_eq D1 b k hb (by omega)
  have e3 : impl_hasOnly.f k d (⟨#[117, 100, 108, 114, 102, 98, 63, 42]⟩ : ByteArray) = _ := hasOnly_eq S1 d k hd (by omega)
  unfold impl_IsPattern.f pattern
  rw [e1, e2, e3, within_some, within_some]
  simp only [Option.bind_some]
  generalize from_ (has F1 a) 0 a.size = q1
  generalize from_ (has D1 b) 0 b.size = q2
  generalize from_ (has S1 d) 0 d.size = q3
  by_cases h1 : (a.size : Int) = 5 <;> by_cases h2 : (b.size : Int) = 2 <;> by_cases h3 : (d.size : Int) ≤ 20 <;> cases q1 <;> cases q2 <;> cases q3 <;> cases decide (-1 ≤ c ∧ c ≤ 9) <;> simp [h1, h2, h3]
/-- Both count the same misses, wherever they are told at all. -/
theorem missed_l0 (a b : ByteArray) (hn : a.size ≤ b.size) (hb : b.size ≤ 4611686018427387903) : ∀ (d k i : Nat) (c : Int), i + d = a.size → d < k →
    ∃ r, spec_seMissed.l0 k a b c (i : Int) = some r ∧ impl_apart.l0 k a b c (a.size : Int) (i : Int) = some r := by
  intro d
  induction d with
  | zero =>
    intro k i c hi hk
    obtain ⟨k, rfl⟩ : ∃ q, k = q + 1 := ⟨k - 1, by omega⟩
    simp only [spec_seMissed.l0, impl_apart.l0]
    rw [if_neg (by omega), if_neg (by omega)]
    exact ⟨_, rfl, rfl⟩
  | succ d ih =>
    intro k i c hi hk
    obtain ⟨k, rfl⟩ : ∃ q, k = q + 1 := ⟨k - 1, by omega⟩
    have hw : wrap64 ((i : Int) + 1) = ((i + 1 : Nat) : Int) := by unfold wrap64; omega
    have c1 : (i : Int) < (a.size : Int) := by omega
    have c2 : (0 : Int) ≤ (i : Int) := by omega
    have c3 : (i : Int) < (b.size : Int) := by omega
    simp only [spec_seMissed.l0, impl_apart.l0, c1, c2, c3, if_true, hw]
    by_cases hq : bt a (i : Int) = 63
    · simp only [hq, if_true]; exact ih k (i + 1) c (by omega) (by omega)
    · simp only [hq, if_false]
      by_cases he : bt a (i : Int) = bt b (i : Int)
      · simp only [he, if_true]; exact ih k (i + 1) c (by omega) (by omega)
      · simp only [he, if_false]; exact ih k (i + 1) _ (by omega) (by omega)
theorem missed_same (a b : ByteArray) (k : Nat) (hn : a.size ≤ b.size) (hb : b.size ≤ 4611686018427387903) (hk : a.size < k) :
    ∃ r, spec_seMissed.f k a b = some r ∧ impl_apart.f k a b = some r := missed_l0 a b hn hb a.size k 0 0 (by omega) hk
theorem weaker_same (a0 a1 : ByteArray) (a2 : Int) (a3 : ByteArray) (a4 : Int) (b0 b1 : ByteArray) (b2 : Int) (b3 : ByteArray) (b4 : Int) (k : Nat)
    (h0 : a0.size ≤ 9223372036854775807) (h1 : a1.size ≤ 9223372036854775807) (h3 : a3.size ≤ 9223372036854775807) (g0 : b0.size ≤ 9223372036854775807) (g1 : b1.size ≤ 9223372036854775807) (g3 : b3.size ≤ 9223372036854775807)
    (hk : a0.size + a1.size + a3.size + b0.size + b1.size + b3.size + 12 < k) :
    ∃ r, spec_IsWeaker.f (k + 1) a0 a1 a2 a3 a4 b0 b1 b2 b3 b4 = some r ∧ impl_IsWeaker.f (k + 1) a0 a1 a2 a3 a4 b0 b1 b2 b3 b4 = some r := by
  unfold spec_IsWeaker.f impl_IsWeaker.f
  rw [pattern_spec a0 a1 a2 a3 a4 (k + 1) h0 h1 h3 (by omega), pattern_spec b0 b1 b2 b3 b4 (k + 1) g0 g1 g3 (by omega), pattern_impl a0 a1 a2 a3 a4 (k + 1) h0 h1 h3 (by omega), pattern_impl b0 b1 b2 b3 b4 (k + 1) g0 g1 g3 (by omega)]
  simp only [Option.bind_some]
  cases ha : pattern a0 a1 a2 a3 a4
  · exact ⟨(false, false), rfl, rfl⟩
  cases hb : pattern b0 b1 b2 b3 b4
  · exact ⟨(false, false), rfl, rfl⟩
  simp only [pattern, Bool.and_eq_true, decide_eq_true_eq] at ha hb
  obtain ⟨⟨s0, -⟩, ⟨s1, -⟩, -⟩ := ha
  obtain ⟨⟨t0, -⟩, ⟨t1, -⟩, -⟩ := hb
  obtain ⟨r0, p0, q0⟩ := missed_same a0 b0 k (by omega) (by omega) (by omega)
  obtain ⟨r1, p1, q1⟩ := missed_same a1 b1 k (by omega) (by omega) (by omega)
  simp only [if_true, Bool.not_true, spec_IsWeaker.j0, impl_IsWeaker.j0, Bool.false_eq_true, if_false, p0, q0, p1, q1, Option.bind_some]
  generalize hx : (if r0 = 0 then _ else _ : Option (Bool × Bool)) = x
  obtain ⟨r, rfl⟩ : ∃ r, x = some r := by
    rw [← hx]; repeat' split
    all_goals exact ⟨_, rfl⟩
  exact ⟨r, rfl, rfl⟩
theorem sz_some (a b : ByteArray) (c : Int) (d : ByteArray) (e x : Int) : ∃ z, laws_szPattern.f a b c d e x = some z := by
  unfold laws_szPattern.f
  repeat' split
  all_goals exact ⟨_, rfl⟩
end Go.Proofs.Ytkhaofalaikegaa.MFnExactIsWeaker
