/- Plain words on alphabets, words and their shapes: what the printed functions answer. -/
import Derived.Test.YtkhaofalaikegaaMB
import Derived.Test.YtkhaofalaikegaaFAx8
import Derived.Test.YtkhaofalaikegaaFAx9
import Derived.Test.YtkhaofalaikegaaFAx10
import Derived.Test.YtkhaofalaikegaaFAx12
import Derived.Test.YtkhaofalaikegaaFAx13 -- home: impl_IsAlphabet.f spec_fsGood.f spec_fsWord.f impl_isWordOf.f spec_fsShapes.f impl_spelled.f spec_fsAsked.f impl_allWithin.f
namespace Go.Proofs.Ytkhaofalaikegaa.MS
open Go.RowKit Go.Proofs.Ytkhaofalaikegaa.MB Go.Proofs.Ytkhaofalaikegaa.FA Go.Proofs.YtkhaofalaikegaaW.PrintWords Go.Proofs.YtkhaofalaikegaaW.PrintLast Go.Proofs.YtkhaofalaikegaaW.PrintMore

theorem in_some (a b c : Int) : spec_l1In.f a b c = some (decide (b ≤ a ∧ a ≤ c)) := by
  unfold spec_l1In.f
  by_cases h : b ≤ a <;> simp [h]
theorem within_some (a b c : Int) : impl_within.f a b c = some (decide (b ≤ a ∧ a ≤ c)) := by
  unfold impl_within.f
  by_cases h : b ≤ a <;> simp [h]
/-- Something holds for the d places from i on. -/
def from_ (p : Nat → Bool) (i d : Nat) : Bool := (List.range' i d).all p
theorem from_zero (p : Nat → Bool) (i : Nat) : from_ p i 0 = true := rfl
theorem from_succ (p : Nat → Bool) (i d : Nat) : from_ p i (d + 1) = (p i && from_ p (i + 1) d) := by
  unfold from_; rw [List.range'_succ]; rfl
theorem from_iff (p : Nat → Bool) (n : Nat) : from_ p 0 n = true ↔ ∀ i, i < n → p i = true := by
  unfold from_
  rw [List.all_eq_true]
  exact ⟨fun h i hi => h i (by rw [List.mem_range']; exact ⟨i, hi, by omega⟩), fun h i hi => h i (by rw [List.mem_range'] at hi; obtain ⟨j, hj, rfl⟩ := hi; omega)⟩
theorem from_rd (p : Int → Bool) (l : List Int) : from_ (fun i => p (rd l (i : Int))) 0 l.length = l.all p := by
  rw [Bool.eq_iff_iff, from_iff, List.all_eq_true]
  constructor
  · intro h x hx
    obtain ⟨i, hi, rfl⟩ := List.getElem_of_mem hx
    have := h i hi
    rwa [rd_nat, List.getD_eq_getElem?_getD, List.getElem?_eq_getElem hi] at this
  · intro h i hi
    rw [rd_nat, List.getD_eq_getElem?_getD, List.getElem?_eq_getElem hi]
    exact h _ (List.getElem_mem hi)
theorem l1All_l0 (l : List Int) (lo hi : Int) (hn : l.length ≤ 4611686018427387903) : ∀ (d k i : Nat), i + d = l.length → d < k →
    spec_l1All.l0 k lo hi l (l.length : Int) (i : Int) = some (from_ (fun j => decide (lo ≤ rd l (j : Int) ∧ rd l (j : Int) ≤ hi)) i d) := by
  intro d
  induction d with
  | zero =>
    intro k i hi hk
    obtain ⟨k, rfl⟩ : ∃ q, k = q + 1 := ⟨k - 1, by omega⟩
    simp only [spec_l1All.l0]
    rw [if_neg (by omega), from_zero]
  | succ d ih =>
    intro k i hi hk
    obtain ⟨k, rfl⟩ : ∃ q, k = q + 1 := ⟨k - 1, by omega⟩
    simp only [spec_l1All.l0]
    rw [if_pos (by omega), if_pos (by omega), if_pos (by omega), in_some, from_succ, up (n := l.length) (by omega) hn, ih k (i + 1) (by omega) (by omega)]
    simp only [Option.bind_some]
    cases decide (lo ≤ rd l (i : Int) ∧ rd l (i : Int) ≤ _) <;> rfl
theorem l1All_eq (l : List Int) (lo hi : Int) (k : Nat) (hn : l.length ≤ 1048576) (hk : l.length < k) : spec_l1All.f k l lo hi = some (l.all fun x => decide (lo ≤ x ∧ x ≤ hi)) := by
  unfold spec_l1All.f
  rw [← from_rd]
  exact l1All_l0 l lo hi (by omega) l.length k 0 (by omega) hk
theorem allWithin_eq (l : List Int) (lo hi : Int) : impl_allWithin.f l lo hi = some (l.all fun x => decide (lo ≤ x ∧ x ≤ hi)) := by
  unfold impl_allWithin.f
  rw [List.not_any_eq_all_not]
  simp
/-- Is this an alphabet? -/
def alpha (l : List Int) : Bool := decide (l.length = 26) && l.all fun x => decide (0 ≤ x ∧ x ≤ 999)
theorem alpha_impl (l : List Int) : impl_IsAlphabet.f l = some (alpha l) := by
  unfold impl_IsAlphabet.f alpha
  by_cases h : l.length = 26
  · rw [if_pos (by omega), allWithin_eq]; simp [h]
  · rw [if_neg (by omega)]; simp [h]
theorem alpha_spec (l : List Int) (k : Nat) (hn : l.length ≤ 1048576) (hk : l.length < k) : spec_fsGood.f k l = some (alpha l) := by
  unfold spec_fsGood.f alpha
  by_cases h : l.length = 26
  · rw [if_pos (by omega), l1All_eq l 0 999 k hn hk]; simp [h]
  · rw [if_neg (by omega)]; simp [h]
theorem alpha_len {l : List Int} (h : alpha l = true) : l.length = 26 := by
  unfold alpha at h; simp at h; exact h.1
theorem alpha_bd {l : List Int} (h : alpha l = true) (i : Nat) : 0 ≤ rd l (i : Int) ∧ rd l (i : Int) ≤ 999 := by
  unfold alpha at h
  simp only [Bool.and_eq_true, List.all_eq_true, decide_eq_true_eq] at h
  rw [rd_nat, List.getD_eq_getElem?_getD]
  rcases Nat.lt_or_ge i l.length with hi | hi
  · rw [List.getElem?_eq_getElem hi]; exact h.2 _ (List.getElem_mem hi)
  · rw [List.getElem?_eq_none hi]; simp
/-- The capitals. -/
def caps : ByteArray := ⟨#[65, 66, 67, 68, 69, 70, 71, 72, 73, 74, 75, 76, 77, 78, 79, 80, 81, 82, 83, 84, 85, 86, 87, 88, 89, 90]⟩
theorem caps_fin : ∀ n ∈ List.range 256, (strings_IndexByte.f caps (n : Int)).map (fun x => decide (x < 0)) = some (!decide (65 ≤ n ∧ n ≤ 90)) := by decide +kernel
theorem caps_at (s : ByteArray) (i : Int) : ∃ x, strings_IndexByte.f caps (bt s i) = some x ∧ (x < 0 ↔ ¬ (65 ≤ bt s i ∧ bt s i ≤ 90)) := by
  obtain ⟨h0, h1⟩ := bt_range s i
  have h := caps_fin (bt s i).toNat (List.mem_range.2 (by omega))
  rw [Int.toNat_of_nonneg h0] at h
  obtain ⟨x, hx⟩ : ∃ x, strings_IndexByte.f caps (bt s i) = some x := ⟨_, rfl⟩
  rw [hx] at h
  refine ⟨x, hx, ?_⟩
  have h : decide (x < 0) = !decide (65 ≤ (bt s i).toNat ∧ (bt s i).toNat ≤ 90) := Option.some.inj h
  constructor
  · intro hx0 hc
    rw [decide_eq_true hx0, decide_eq_true (⟨by omega, by omega⟩ : 65 ≤ (bt s i).toNat ∧ (bt s i).toNat ≤ 90)] at h
    cases h
  · intro hc
    by_cases hx0 : x < 0
    · exact hx0
    · rw [decide_eq_false hx0, decide_eq_false (fun h2 => hc ⟨by omega, by omega⟩ : ¬ (65 ≤ (bt s i).toNat ∧ (bt s i).toNat ≤ 90))] at h
      cases h
def cap (s : ByteArray) (i : Nat) : Bool := decide (65 ≤ bt s (i : Int) ∧ bt s (i : Int) ≤ 90)
/-- Is this a word? -/
def word (s : ByteArray) : Bool := from_ (cap s) 0 s.size && decide (1 ≤ (s.size : Int) ∧ (s.size : Int) ≤ 8)
theorem fsWord_l0 (s : ByteArray) (hn : s.size ≤ 4611686018427387903) : ∀ (d k i : Nat), i + d = s.size → d < k →
    spec_fsWord.l0 k s (i : Int) = some (from_ (cap s) i d && decide (1 ≤ (s.size : Int) ∧ (s.size : Int) ≤ 8)) := by
  intro d
  induction d with
  | zero =>
    intro k i hi hk
    obtain ⟨k, rfl⟩ : ∃ q, k = q + 1 := ⟨k - 1, by omega⟩
    simp only [spec_fsWord.l0]
    rw [if_neg (by omega), from_zero, in_some]; rfl
  | succ d ih =>
    intro k i hi hk
    obtain ⟨k, rfl⟩ : ∃ q, k = q + 1 := ⟨k - 1, by omega⟩
    simp only [spec_fsWord.l0]
    rw [if_pos (by omega), if_pos (by omega), from_succ, up (n := s.size) (by omega) hn, ih k (i + 1) (by omega) (by omega)]
    unfold cap
    by_cases h1 : bt s (i : Int) < 65
    · rw [if_pos h1]; simp [show ¬ (65 ≤ bt s (i : Int)) from by omega]
    · rw [if_neg h1]
      by_cases h2 : bt s (i : Int) > 90
      · rw [if_pos h2]; simp [show ¬ (bt s (i : Int) ≤ 90) from by omega]
      · rw [if_neg h2]; simp [show 65 ≤ bt s (i : Int) from by omega, show bt s (i : Int) ≤ 90 from by omega]
theorem word_spec (s : ByteArray) (k : Nat) (hn : s.size ≤ 4611686018427387903) (hk : s.size < k) : spec_fsWord.f k s = some (word s) := fsWord_l0 s hn s.size k 0 (by omega) hk
theorem hasOnly_l0 (s : ByteArray) (hn : s.size ≤ 4611686018427387903) : ∀ (d k i : Nat), i + d = s.size → d < k →
    impl_hasOnly.l0 k s caps (s.size : Int) (i : Int) = some (from_ (cap s) i d) := by
  intro d
  induction d with
  | zero =>
    intro k i hi hk
    obtain ⟨k, rfl⟩ : ∃ q, k = q + 1 := ⟨k - 1, by omega⟩
    simp only [impl_hasOnly.l0]
    rw [if_neg (by omega), from_zero]
  | succ d ih =>
    intro k i hi hk
    obtain ⟨k, rfl⟩ : ∃ q, k = q + 1 := ⟨k - 1, by omega⟩
    obtain ⟨x, hx, hx2⟩ := caps_at s (i : Int)
    simp only [impl_hasOnly.l0]
    rw [if_pos (by omega), if_pos (by omega), if_pos (by omega), hx, from_succ, up (n := s.size) (by omega) hn, ih k (i + 1) (by omega) (by omega)]
    simp only [Option.bind_some]
    unfold cap
    by_cases h1 : x < 0
    · rw [if_pos h1, decide_eq_false (hx2.1 h1)]; rfl
    · rw [if_neg h1, decide_eq_true (Decidable.of_not_not (fun h2 => h1 (hx2.2 h2)))]; rfl
theorem word_impl (s : ByteArray) (k : Nat) (hn : s.size ≤ 4611686018427387903) (hk : s.size < k) : impl_isWordOf.f k s caps = some (word s) := by
  unfold impl_isWordOf.f impl_hasOnly.f word
  have hh : impl_hasOnly.l0 k s caps (s.size : Int) 0 = _ := hasOnly_l0 s hn s.size k 0 (by omega) hk
  rw [within_some, hh]
  cases h : decide (1 ≤ (s.size : Int) ∧ (s.size : Int) ≤ 8) <;> simp
theorem word_iff {s : ByteArray} : word s = true ↔ (∀ i, i < s.size → 65 ≤ bt s (i : Int) ∧ bt s (i : Int) ≤ 90) ∧ 1 ≤ s.size ∧ s.size ≤ 8 := by
  unfold word
  rw [Bool.and_eq_true, from_iff]
  simp only [cap, decide_eq_true_eq]
  exact ⟨fun ⟨h, h2⟩ => ⟨h, by omega, by omega⟩, fun ⟨h, h2, h3⟩ => ⟨h, by omega, by omega⟩⟩
theorem asked_eq (l : List Int) (s : ByteArray) (k : Nat) (hn : l.length ≤ 1048576) (hk : l.length < k) (hs : s.size ≤ 1048576) (hk2 : s.size < k) : spec_fsAsked.f k l s = some (alpha l && word s) := by
  unfold spec_fsAsked.f
  rw [alpha_spec l k hn hk, word_spec s k (by omega) hk2]
  cases alpha l <;> simp
/-- The shape of a letter. -/
def shape (l : List Int) (s : ByteArray) (i : Nat) : Int := rd l ((bt s (i : Int) - 65) % 256)
/-- The shapes of a word. -/
def shapes (l : List Int) (s : ByteArray) : List Int := (List.range s.size).map (shape l s)
theorem shapes_length (l : List Int) (s : ByteArray) : (shapes l s).length = s.size := by simp [shapes]
theorem take_snoc (g : Nat → Int) (i : Nat) : (List.range i).map g ++ [g i] = (List.range (i + 1)).map g := by rw [List.range_succ]; simp
theorem fsShapes_l0 (l : List Int) (s : ByteArray) (ha : alpha l = true) (hw : word s = true) : ∀ (d k i : Nat), i + d = s.size → d < k →
    spec_fsShapes.l0 k l s ((List.range i).map (shape l s)) (i : Int) = some (shapes l s) := by
  obtain ⟨hc, hs1, hs8⟩ := word_iff.1 hw
  have hl := alpha_len ha
  intro d
  induction d with
  | zero =>
    intro k i hi hk
    obtain ⟨k, rfl⟩ : ∃ q, k = q + 1 := ⟨k - 1, by omega⟩
    simp only [spec_fsShapes.l0]
    obtain rfl : i = s.size := by omega
    rw [if_neg (by omega)]; rfl
  | succ d ih =>
    intro k i hi hk
    obtain ⟨k, rfl⟩ : ∃ q, k = q + 1 := ⟨k - 1, by omega⟩
    have := hc i (by omega)
    simp only [spec_fsShapes.l0]
    rw [if_pos (by omega), if_pos (by omega), if_pos (by omega), if_pos (by omega), if_pos (by simp; omega), up (n := s.size) (by omega) (by omega)]
    rw [show rd l ((bt s (i : Int) - 65) % 256) = shape l s i from rfl, take_snoc]
    exact ih k (i + 1) (by omega) (by omega)
theorem shapes_spec (l : List Int) (s : ByteArray) (k : Nat) (ha : alpha l = true) (hw : word s = true) (hk : 8 < k) : spec_fsShapes.f k l s = some (shapes l s) := by
  have := word_iff.1 hw
  exact fsShapes_l0 l s ha hw s.size k 0 (by omega) (by omega)
theorem spelled_l0 (l : List Int) (s : ByteArray) (ha : alpha l = true) (hw : word s = true) : ∀ (d k i : Nat), i + d = s.size → d < k →
    impl_spelled.l0 k l s ((List.range i).map (shape l s)) (s.size : Int) (i : Int) = some (shapes l s) := by
  obtain ⟨hc, hs1, hs8⟩ := word_iff.1 hw
  have hl := alpha_len ha
  intro d
  induction d with
  | zero =>
    intro k i hi hk
    obtain ⟨k, rfl⟩ : ∃ q, k = q + 1 := ⟨k - 1, by omega⟩
    simp only [impl_spelled.l0]
    obtain rfl : i = s.size := by omega
    rw [if_neg (by omega)]; rfl
  | succ d ih =>
    intro k i hi hk
    obtain ⟨k, rfl⟩ : ∃ q, k = q + 1 := ⟨k - 1, by omega⟩
    have := hc i (by omega)
    simp only [impl_spelled.l0]
    rw [if_pos (by omega), if_pos (by omega), if_pos (by omega), if_pos (by omega), if_pos (by omega), if_pos (by simp; omega), up (n := s.size) (by omega) (by omega)]
    rw [show rd l ((bt s (i : Int) - 65) % 256) = shape l s i from rfl, take_snoc]
    exact ih k (i + 1) (by omega) (by omega)
theorem shapes_impl (l : List Int) (s : ByteArray) (k : Nat) (ha : alpha l = true) (hw : word s = true) (hk : 8 < k) : impl_spelled.f k l s = some (shapes l s) := by
  have := word_iff.1 hw
  exact spelled_l0 l s ha hw s.size k 0 (by omega) (by omega)
end Go.Proofs.Ytkhaofalaikegaa.MS
