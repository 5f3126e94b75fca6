/- The words that the plain law behind FnExactLongestWithin needs. -/
import Derived.Test.YtkhaofalaikegaaFAx2
import Derived.Test.YtkhaofalaikegaaFAx3
import Derived.Test.YtkhaofalaikegaaFAx4
import Derived.Test.YtkhaofalaikegaaFAx8
import Derived.Test.YtkhaofalaikegaaFAx9
import Derived.Test.YtkhaofalaikegaaFAx10
import Derived.Test.YtkhaofalaikegaaFAx11
import Derived.Test.YtkhaofalaikegaaFAx12
import Derived.Test.YtkhaofalaikegaaFAx13
import Derived.Test.YtkhaofalaikegaaFAx14
import Derived.Test.YtkhaofalaikegaaFAx15
import Derived.Test.YtkhaofalaikegaaFAx16 -- home: impl_IsAlphabet.f impl_LongestWithin.f impl_allWithin.f impl_hasOnly.f impl_isWordOf.f impl_spellTime.f impl_spelled.f impl_within.f laws_eqIntS.f laws_toIntS.f spec_LongestWithin.f spec_fsAsked.f spec_fsGood.f spec_fsShapes.f spec_fsTime.f spec_fsTimes.f spec_fsWord.f spec_l1All.f spec_l1In.f strings_IndexByte.f
namespace Go.Proofs.Ytkhaofalaikegaa.MFnExactLongestWithin
open Go.RowKit Go.Proofs.Ytkhaofalaikegaa.FA Go.Proofs.YtkhaofalaikegaaW.PrintWords Go.Proofs.YtkhaofalaikegaaW.PrintLast Go.Proofs.YtkhaofalaikegaaW.PrintMore
set_option linter.unusedVariables false

theorem wr {x : Int} (h0 : -4611686018427387904 ≤ x) (h1 : x ≤ 4611686018427387904) : wrap64 x = x := by unfold wrap64; omega
theorem up {i n : Nat} (h : i < n) (hn : n ≤ 4611686018427387903) : wrap64 ((i : Int) + 1) = ((i + 1 : Nat) : Int) := by rw [wr (by omega) (by omega)]; rfl
theorem rd_nat (l : List Int) (i : Nat) : rd l (i : Int) = l.getD i 0 := rfl
theorem getD_eq {α : Type} (l : List α) (i : Nat) (z : α) (h : i < l.length) : l[i]? = some (l.getD i z) := by
  rw [List.getD_eq_getElem?_getD, List.getElem?_eq_getElem h]; rfl
theorem set_next {α : Type} (l m : List α) (z : α) {i : Nat} (hl : m.length = l.length) (hi : i < l.length) (h : ∀ j, j < i → m[j]? = l[j]?) : ∀ j, j < i + 1 → (m.set i (l.getD i z))[j]? = l[j]? := by
  intro j hj
  rcases Nat.lt_or_ge j i with hji | hji
  · rw [List.getElem?_set_ne (by omega)]; exact h j hji
  · obtain rfl : j = i := by omega
    rw [List.getElem?_set_self (by omega)]; exact (getD_eq l j z hi).symm
theorem same_list {α : Type} (l m : List α) (hl : m.length = l.length) (h : ∀ j, j < l.length → m[j]? = l[j]?) : m = l := by
  apply List.ext_getElem?
  intro j
  rcases Nat.lt_or_ge j l.length with hj | hj
  · exact h j hj
  · rw [List.getElem?_eq_none (by omega), List.getElem?_eq_none (by omega)]
/-- toIntS copies. -/
theorem toIntS_l0 (l : List Int) (hn : l.length ≤ 4611686018427387903) : ∀ (d k i : Nat) (m : List Int), m.length = l.length → (∀ j, j < i → m[j]? = l[j]?) → i + d = l.length → d < k → laws_toIntS.l0 k l m (i : Int) = some l := by
  intro d
  induction d with
  | zero =>
    intro k i m hm h hi hk
    obtain ⟨k, rfl⟩ : ∃ q, k = q + 1 := ⟨k - 1, by omega⟩
    simp only [laws_toIntS.l0]
    rw [if_neg (by omega), same_list l m hm (fun j hj => h j (by omega))]
  | succ d ih =>
    intro k i m hm h hi hk
    obtain ⟨k, rfl⟩ : ∃ q, k = q + 1 := ⟨k - 1, by omega⟩
    simp only [laws_toIntS.l0]
    rw [if_pos (by omega), if_pos (by omega), if_pos (by omega), up (n := l.length) (by omega) hn, Int.toNat_natCast, rd_nat]
    exact ih k (i + 1) _ (by rw [List.length_set]; exact hm) (set_next l m 0 hm (by omega) h) (by omega) (by omega)
theorem toIntS_eq (l : List Int) (k : Nat) (hn : l.length ≤ 1048576) (hk : l.length < k) : laws_toIntS.f k l = some l := by
  unfold laws_toIntS.f
  rw [if_pos (by omega), if_pos (by omega), Int.toNat_natCast]
  exact toIntS_l0 l (by omega) l.length k 0 _ (by simp) (fun j hj => by omega) (by omega) hk
/-- eqIntS tells equal lists. -/
theorem eqIntS_l0 (l : List Int) (hn : l.length ≤ 4611686018427387903) : ∀ (d k i : Nat), i + d = l.length → d < k → laws_eqIntS.l0 k l l (i : Int) = some true := by
  intro d
  induction d with
  | zero =>
    intro k i hi hk
    obtain ⟨k, rfl⟩ : ∃ q, k = q + 1 := ⟨k - 1, by omega⟩
    simp only [laws_eqIntS.l0]
    rw [if_neg (by omega)]
  | succ d ih =>
    intro k i hi hk
    obtain ⟨k, rfl⟩ : ∃ q, k = q + 1 := ⟨k - 1, by omega⟩
    simp only [laws_eqIntS.l0]
    rw [if_pos (by omega), if_pos (by omega), if_pos (by omega), if_pos trivial, up (n := l.length) (by omega) hn]
    exact ih k (i + 1) (by omega) (by omega)
theorem eqIntS_self (l : List Int) (k : Nat) (hn : l.length ≤ 1048576) (hk : l.length < k) : laws_eqIntS.f k l l = some true := by
  unfold laws_eqIntS.f
  rw [if_pos rfl]
  exact eqIntS_l0 l (by omega) l.length k 0 (by omega) hk

theorem in_some (a b c : Int) : spec_l1In.f a b c = some (decide (b ≤ a ∧ a ≤ c)) := by
  unfold spec_l1In.f
  by_cases h : b ≤ a <;> simp [h]
theorem within_some (a b c : Int) : impl_within.f a b c = some (decide (b ≤ a ∧ a ≤ c)) := by
  unfold impl_within.f
  by_cases h : b ≤ a <;> simp [h]
/-- Something holds for the d places from i on. -/
def from_ (p : Nat → Bool) (i d : Nat) : Bool := (List.range' i d).all p
theorem from_zero (p : Nat → Bool) (i : Nat) : from_ p i 0 = true := rfl
theorem from_succ (p : Nat → Bool) (i d : Nat) : from_ p i (d + 1) = (p i && from_ p (i + 1) d) := by
  unfold from_; rw [List.range'_succ]; rfl
theorem from_iff (p : Nat → Bool) (n : Nat) : from_ p 0 n = true ↔ ∀ i, i < n → p i = true := by
  unfold from_
  rw [List.all_eq_true]
  exact ⟨fun h i hi => h i (by rw [List.mem_range']; exact ⟨i, hi, by omega⟩), fun h i hi => h i (by rw [List.mem_range'] at hi; obtain ⟨j, hj, rfl⟩ := hi; omega)⟩
theorem from_rd (p : Int → Bool) (l : List Int) : from_ (fun i => p (rd l (i : Int))) 0 l.length = l.all p := by
  rw [Bool.eq_iff_iff, from_iff, List.all_eq_true]
  constructor
  · intro h x hx
    obtain ⟨i, hi, rfl⟩ := List.getElem_of_mem hx
    have := h i hi
    rwa [rd_nat, List.getD_eq_getElem?_getD, List.getElem?_eq_getElem hi] at this
  · intro h i hi
    rw [rd_nat, List.getD_eq_getElem?_getD, List.getElem?_eq_getElem hi]
    exact h _ (List.getElem_mem hi)
theorem l1All_l0 (l : List Int) (lo hi : Int) (hn : l.length ≤ 4611686018427387903) : ∀ (d k i : Nat), i + d = l.length → d < k →
    spec_l1All.l0 k lo hi l (l.length : Int) (i : Int) = some (from_ (fun j => decide (lo ≤ rd l (j : Int) ∧ rd l (j : Int) ≤ hi)) i d) := by
  intro d
  induction d with
  | zero =>
    intro k i hi hk
    obtain ⟨k, rfl⟩ : ∃ q, k = q + 1 := ⟨k - 1, by omega⟩
    simp only [spec_l1All.l0]
    rw [if_neg (by omega), from_zero]
  | succ d ih =>
    intro k i hi hk
    obtain ⟨k, rfl⟩ : ∃ q, k = q + 1 := ⟨k - 1, by omega⟩
    simp only [spec_l1All.l0]
    rw [if_pos (by omega), if_pos (by omega), if_pos (by omega), in_some, from_succ, up (n := l.length) (by omega) hn, ih k (i + 1) (by omega) (by omega)]
    simp only [Option.bind_some]
    cases decide (lo ≤ rd l (i : Int) ∧ rd l (i : Int) ≤ _) <;> rfl
theorem l1All_eq (l : List Int) (lo hi : Int) (k : Nat) (hn : l.length ≤ 1048576) (hk : l.length < k) : spec_l1All.f k l lo hi = some (l.all fun x => decide (lo ≤ x ∧ x ≤ hi)) := by
  unfold spec_l1All.f
  rw [← from_rd]
  exact l1All_l0 l lo hi (by omega) l.length k 0 (by omega) hk
theorem allWithin_eq (l : List Int) (lo hi : Int) : impl_allWithin.f l lo hi = some (l.all fun x => decide (lo ≤ x ∧ x ≤ hi)) := by
  unfold impl_allWithin.f
  rw [List.not_any_eq_all_not]
  simp
/-- Is this an alphabet? -/
def alpha (l : List Int) : Bool := decide (l.length = 26) && l.all fun x => decide (0 ≤ x ∧ x ≤ 999)
theorem alpha_impl (l : List Int) : impl_IsAlphabet.f l = some (alpha l) := by
  unfold impl_IsAlphabet.f alpha
  by_cases h : l.length = 26
  · rw [if_pos (by omega), allWithin_eq]; simp [h]
  · rw [if_neg (by omega)]; simp [h]
theorem alpha_spec (l : List Int) (k : Nat) (hn : l.length ≤ 1048576) (hk : l.length < k) : spec_fsGood.f k l = some (alpha l) := by
  unfold spec_fsGood.f alpha
  by_cases h : l.length = 26
  · rw [if_pos (by omega), l1All_eq l 0 999 k hn hk]; simp [h]
  · rw [if_neg (by omega)]; simp [h]
theorem alpha_len {l : List Int} (h : alpha l = true) : l.length = 26 := by
  unfold alpha at h; simp at h; exact h.1
/-- The capitals. -/
def caps : ByteArray := ⟨#[65, 66, 67, 68, 69, 70, 71, 72, 73, 74, 75, 76, 77, 78, 79, 80, 81, 82, 83, 84, 85, 86, 87, 88, 89, 90]⟩
theorem caps_fin : ∀ n ∈ List.range 256, (strings_IndexByte.f caps (n : Int)).map (fun x => decide (x < 0)) = some (!decide (65 ≤ n ∧ n ≤ 90)) := by decide +kernel
theorem caps_at (s : ByteArray) (i : Int) : ∃ x, strings_IndexByte.f caps (bt s i) = some x ∧ (x < 0 ↔ ¬ (65 ≤ bt s i ∧ bt s i ≤ 90)) := by
  obtain ⟨h0, h1⟩ := bt_range s i
  have h := caps_fin (bt s i).toNat (List.mem_range.2 (by omega))
  rw [Int.toNat_of_nonneg h0] at h
  obtain ⟨x, hx⟩ : ∃ x, strings_IndexByte.f caps (bt s i) = some x := ⟨_, rfl⟩
  rw [hx] at h
  refine ⟨x, hx, ?_⟩
  have h : decide (x < 0) = !decide (65 ≤ (bt s i).toNat ∧ (bt s i).toNat ≤ 90) := Option.some.inj h
  constructor
  · intro hx0 hc
    rw [decide_eq_true hx0, decide_eq_true (⟨by omega, by omega⟩ : 65 ≤ (bt s i).toNat ∧ (bt s i).toNat ≤ 90)] at h
    cases h
  · intro hc
    by_cases hx0 : x < 0
    · exact hx0
    · rw [decide_eq_false hx0, decide_eq_false (fun h2 => hc ⟨by omega, by omega⟩ : ¬ (65 ≤ (bt s i).toNat ∧ (bt s i).toNat ≤ 90))] at h
      cases h
def cap (s : ByteArray) (i : Nat) : Bool := decide (65 ≤ bt s (i : Int) ∧ bt s (i : Int) ≤ 90)
/-- Is this a word? -/
def word (s : ByteArray) : Bool := from_ (cap s) 0 s.size && decide (1 ≤ (s.size : Int) ∧ (s.size : Int) ≤ 8)
theorem fsWord_l0 (s : ByteArray) (hn : s.size ≤ 4611686018427387903) : ∀ (d k i : Nat), i + d = s.size → d < k →
    spec_fsWord.l0 k s (i : Int) = some (from_ (cap s) i d && decide (1 ≤ (s.size : Int) ∧ (s.size : Int) ≤ 8)) := by
  intro d
  induction d with
  | zero =>
    intro k i hi hk
    obtain ⟨k, rfl⟩ : ∃ q, k = q + 1 := ⟨k - 1, by omega⟩
    simp only [spec_fsWord.l0]
    rw [if_neg (by omega), from_zero, in_some]; rfl
  | succ d ih =>
    intro k i hi hk
    obtain ⟨k, rfl⟩ : ∃ q, k = q + 1 := ⟨k - 1, by omega⟩
    simp only [spec_fsWord.l0]
    rw [if_pos (by omega), if_pos (by omega), from_succ, up (n := s.size) (by omega) hn, ih k (i + 1) (by omega) (by omega)]
    unfold cap
    by_cases h1 : bt s (i : Int) < 65
    · rw [if_pos h1]; simp [show ¬ (65 ≤ bt s (i : Int)) from by omega]
    · rw [if_neg h1]
      by_cases h2 : bt s (i : Int) > 90
      · rw [if_pos h2]; simp [show ¬ (bt s (i : Int) ≤ 90) from by omega]
      · rw [if_neg h2]; simp [show 65 ≤ bt s (i : Int) from by omega, show bt s (i : Int) ≤ 90 from by omega]
theorem word_spec (s : ByteArray) (k : Nat) (hn : s.size ≤ 4611686018427387903) (hk : s.size < k) : spec_fsWord.f k s = some (word s) := fsWord_l0 s hn s.size k 0 (by omega) hk
theorem hasOnly_l0 (s : ByteArray) (hn : s.size ≤ 4611686018427387903) : ∀ (d k i : Nat), i + d = s.size → d < k →
    impl_hasOnly.l0 k s caps (s.size : Int) (i : Int) = some (from_ (cap s) i d) := by
  intro d
  induction d with
  | zero =>
    intro k i hi hk
    obtain ⟨k, rfl⟩ : ∃ q, k = q + 1 := ⟨k - 1, by omega⟩
    simp only [impl_hasOnly.l0]
    rw [if_neg (by omega), from_zero]
  | succ d ih =>
    intro k i hi hk
    obtain ⟨k, rfl⟩ : ∃ q, k = q + 1 := ⟨k - 1, by omega⟩
    obtain ⟨x, hx, hx2⟩ := caps_at s (i : Int)
    simp only [impl_hasOnly.l0]
    rw [if_pos (by omega), if_pos (by omega), if_pos (by omega), hx, from_succ, up (n := s.size) (by omega) hn, ih k (i + 1) (by omega) (by omega)]
    simp only [Option.bind_some]
    unfold cap
    by_cases h1 : x < 0
    · rw [if_pos h1, decide_eq_false (hx2.1 h1)]; rfl
    · rw [if_neg h1, decide_eq_true (Decidable.of_not_not (fun h2 => h1 (hx2.2 h2)))]; rfl
theorem word_impl (s : ByteArray) (k : Nat) (hn : s.size ≤ 4611686018427387903) (hk : s.size < k) : impl_isWordOf.f k s caps = some (word s) := by
  unfold impl_isWordOf.f impl_hasOnly.f word
  have hh : impl_hasOnly.l0 k s caps (s.size : Int) 0 = _ := hasOnly_l0 s hn s.size k 0 (by omega) hk
  rw [within_some, hh]
  cases h : decide (1 ≤ (s.size : Int) ∧ (s.size : Int) ≤ 8) <;> simp
theorem word_iff {s : ByteArray} : word s = true ↔ (∀ i, i < s.size → 65 ≤ bt s (i : Int) ∧ bt s (i : Int) ≤ 90) ∧ 1 ≤ s.size ∧ s.size ≤ 8 := by
  unfold word
  rw [Bool.and_eq_true, from_iff]
  simp only [cap, decide_eq_true_eq]
  exact ⟨fun ⟨h, h2⟩ => ⟨h, by omega, by omega⟩, fun ⟨h, h2, h3⟩ => ⟨h, by omega, by omega⟩⟩
theorem asked_eq (l : List Int) (s : ByteArray) (k : Nat) (hn : l.length ≤ 1048576) (hk : l.length < k) (hs : s.size ≤ 1048576) (hk2 : s.size < k) : spec_fsAsked.f k l s = some (alpha l && word s) := by
  unfold spec_fsAsked.f
  rw [alpha_spec l k hn hk, word_spec s k (by omega) hk2]
  cases alpha l <;> simp
/-- The shape of a letter. -/
def shape (l : List Int) (s : ByteArray) (i : Nat) : Int := rd l ((bt s (i : Int) - 65) % 256)
/-- The shapes of a word. -/
def shapes (l : List Int) (s : ByteArray) : List Int := (List.range s.size).map (shape l s)
theorem shapes_length (l : List Int) (s : ByteArray) : (shapes l s).length = s.size := by simp [shapes]
theorem take_snoc (g : Nat → Int) (i : Nat) : (List.range i).map g ++ [g i] = (List.range (i + 1)).map g := by rw [List.range_succ]; simp
theorem fsShapes_l0 (l : List Int) (s : ByteArray) (ha : alpha l = true) (hw : word s = true) : ∀ (d k i : Nat), i + d = s.size → d < k →
    spec_fsShapes.l0 k l s ((List.range i).map (shape l s)) (i : Int) = some (shapes l s) := by
  obtain ⟨hc, hs1, hs8⟩ := word_iff.1 hw
  have hl := alpha_len ha
  intro d
  induction d with
  | zero =>
    intro k i hi hk
    obtain ⟨k, rfl⟩ : ∃ q, k = q + 1 := ⟨k - 1, by omega⟩
    simp only [spec_fsShapes.l0]
    obtain rfl : i = s.size := by omega
    rw [if_neg (by omega)]; rfl
  | succ d ih =>
    intro k i hi hk
    obtain ⟨k, rfl⟩ : ∃ q, k = q + 1 := ⟨k - 1, by omega⟩
    have := hc i (by omega)
    simp only [spec_fsShapes.l0]
    rw [if_pos (by omega), if_pos (by omega), if_pos (by omega), if_pos (by omega), if_pos (by simp; omega), up (n := s.size) (by omega) (by omega)]
    rw [show rd l ((bt s (i : Int) - 65) % 256) = shape l s i from rfl, take_snoc]
    exact ih k (i + 1) (by omega) (by omega)
theorem shapes_spec (l : List Int) (s : ByteArray) (k : Nat) (ha : alpha l = true) (hw : word s = true) (hk : 8 < k) : spec_fsShapes.f k l s = some (shapes l s) := by
  have := word_iff.1 hw
  exact fsShapes_l0 l s ha hw s.size k 0 (by omega) (by omega)
theorem spelled_l0 (l : List Int) (s : ByteArray) (ha : alpha l = true) (hw : word s = true) : ∀ (d k i : Nat), i + d = s.size → d < k →
    impl_spelled.l0 k l s ((List.range i).map (shape l s)) (s.size : Int) (i : Int) = some (shapes l s) := by
  obtain ⟨hc, hs1, hs8⟩ := word_iff.1 hw
  have hl := alpha_len ha
  intro d
  induction d with
  | zero =>
    intro k i hi hk
    obtain ⟨k, rfl⟩ : ∃ q, k = q + 1 := ⟨k - 1, by omega⟩
    simp only [impl_spelled.l0]
    obtain rfl : i = s.size := by omega
    rw [if_neg (by omega)]; rfl
  | succ d ih =>
    intro k i hi hk
    obtain ⟨k, rfl⟩ : ∃ q, k = q + 1 := ⟨k - 1, by omega⟩
    have := hc i (by omega)
    simp only [impl_spelled.l0]
    rw [if_pos (by omega), if_pos (by omega), if_pos (by omega), if_pos (by omega), if_pos (by omega), if_pos (by simp; omega), up (n := s.size) (by omega) (by omega)]
    rw [show rd l ((bt s (i : Int) - 65) % 256) = shape l s i from rfl, take_snoc]
    exact ih k (i + 1) (by omega) (by omega)
theorem shapes_impl (l : List Int) (s : ByteArray) (k : Nat) (ha : alpha l = true) (hw : word s = true) (hk : 8 < k) : impl_spelled.f k l s = some (shapes l s) := by
  have := word_iff.1 hw
  exact spelled_l0 l s ha hw s.size k 0 (by omega) (by omega)
def sumf (g : Nat → Int) : Nat → Nat → Int
  | _, 0 => 0
  | i, d + 1 => g i + sumf g (i + 1) d
theorem sumf_plus (g : Nat → Int) (c : Int) : ∀ d i, sumf (fun j => g j + c) i d = sumf g i d + c * d
  | 0, i => by simp [sumf]
  | d + 1, i => by
    have e : c * ((d + 1 : Nat) : Int) = c * d + c := by rw [Int.natCast_add, Int.mul_add]; simp
    unfold sumf; rw [sumf_plus g c d (i + 1)]; omega
theorem sumf_congr {g g' : Nat → Int} : ∀ d i, (∀ j, i ≤ j → g j = g' j) → sumf g i d = sumf g' i d
  | 0, i, _ => rfl
  | d + 1, i, h => by unfold sumf; rw [h i (Nat.le_refl _), sumf_congr d (i + 1) (fun j hj => h j (by omega))]
def step (l : List Int) (c : Int) (j : Nat) : Int := if rd l (j : Int) = rd l ((j : Int) - 1) then 1 else c
/-- The time of shapes. -/
def time (l : List Int) (h c : Int) : Int := h * l.length + sumf (step l c) 1 (l.length - 1)
theorem step_bd (l : List Int) {c : Int} (h0 : 0 ≤ c) (h1 : c ≤ 100) (j : Nat) : 0 ≤ step l c j ∧ step l c j ≤ 100 := by unfold step; split <;> omega
theorem spellTime_l0 (l : List Int) (c : Int) (h0 : 0 ≤ c) (h1 : c ≤ 100) (hn : l.length ≤ 8) : ∀ (d k i : Nat) (x : Int), 0 ≤ x → x ≤ 10000 - 100 * d → 1 ≤ i → i + d = l.length → d < k → impl_spellTime.l0 k l c x (i : Int) = some (x + sumf (step l c) i d) := by
  intro d
  induction d with
  | zero =>
    intro k i x hx0 hx1 hi1 hi hk
    obtain ⟨k, rfl⟩ : ∃ q, k = q + 1 := ⟨k - 1, by omega⟩
    simp only [impl_spellTime.l0]
    rw [if_neg (by omega)]; simp [sumf]
  | succ d ih =>
    intro k i x hx0 hx1 hi1 hi hk
    obtain ⟨k, rfl⟩ : ∃ q, k = q + 1 := ⟨k - 1, by omega⟩
    have hs := step_bd l h0 h1 i
    simp only [impl_spellTime.l0]
    rw [wr (x := (i : Int) - 1) (by omega) (by omega), if_pos (by omega), if_pos (by omega), if_pos (by omega), if_pos (by omega), up (n := l.length) (by omega) (by omega)]
    unfold sumf
    rw [← Int.add_assoc]
    unfold step at hs ⊢
    by_cases he : rd l (i : Int) = rd l ((i : Int) - 1)
    · rw [if_pos he, if_pos he, wr (x := x + 1) (by omega) (by omega)]
      exact ih k (i + 1) (x + 1) (by omega) (by omega) (by omega) (by omega) (by omega)
    · rw [if_neg he, if_neg he, wr (x := x + c) (by omega) (by omega)]
      exact ih k (i + 1) (x + c) (by omega) (by omega) (by omega) (by omega) (by omega)
theorem time_impl (l : List Int) (h c : Int) (k : Nat) (hh0 : 0 ≤ h) (hh1 : h ≤ 100) (h0 : 0 ≤ c) (h1 : c ≤ 100) (hl : 1 ≤ l.length) (hn : l.length ≤ 8) (hk : 8 < k) : impl_spellTime.f k l h c = some (time l h c) := by
  unfold impl_spellTime.f time
  have e0 : 0 ≤ h * (l.length : Int) := Int.mul_nonneg hh0 (by omega)
  have e1 : h * (l.length : Int) ≤ 100 * 8 := Int.mul_le_mul hh1 (by omega) (by omega) (by omega)
  rw [wr (x := h * (l.length : Int)) (by omega) (by omega)]
  exact spellTime_l0 l c h0 h1 hn (l.length - 1) k 1 _ e0 (by omega) (by omega) (by omega) (by omega)
def part (l : List Int) (h c : Int) (j : Nat) : Int := (if j = 0 then 0 else step l c j) + h
theorem part_zero (l : List Int) (h c : Int) : part l h c 0 = h := by simp [part]
theorem part_pos (l : List Int) (h c : Int) {j : Nat} (hj : j ≠ 0) : part l h c j = step l c j + h := by simp [part, hj]
theorem fsTime_l0 (l : List Int) (h c : Int) (hh0 : 0 ≤ h) (hh1 : h ≤ 100) (h0 : 0 ≤ c) (h1 : c ≤ 100) (hn : l.length ≤ 8) : ∀ (d k i : Nat) (x : Int), 0 ≤ x → x ≤ 10000 - 200 * d → i + d = l.length → d < k →
    spec_fsTime.l0 k l h c x l (l.length : Int) (i : Int) = some (x + sumf (part l h c) i d) := by
  intro d
  induction d with
  | zero =>
    intro k i x hx0 hx1 hi hk
    obtain ⟨k, rfl⟩ : ∃ q, k = q + 1 := ⟨k - 1, by omega⟩
    simp only [spec_fsTime.l0]
    rw [if_neg (by omega)]; simp [sumf]
  | succ d ih =>
    intro k i x hx0 hx1 hi hk
    obtain ⟨k, rfl⟩ : ∃ q, k = q + 1 := ⟨k - 1, by omega⟩
    simp only [spec_fsTime.l0]
    rw [if_pos (by omega), if_pos (by omega), if_pos (by omega), up (n := l.length) (by omega) (by omega)]
    unfold sumf
    rw [← Int.add_assoc]
    by_cases hz : i = 0
    · subst hz
      rw [part_zero, if_pos (by omega), wr (x := x + h) (by omega) (by omega)]
      exact ih k 1 (x + h) (by omega) (by omega) (by omega) (by omega)
    · have hs := step_bd l h0 h1 i
      rw [if_neg (by omega), wr (x := (i : Int) - 1) (by omega) (by omega), if_pos (by omega), if_pos (by omega)]
      rw [part_pos l h c hz, ← Int.add_assoc]
      unfold step at hs ⊢
      by_cases he : rd l (i : Int) = rd l ((i : Int) - 1)
      · rw [if_pos he, if_pos he, wr (x := x + 1) (by omega) (by omega), wr (x := x + 1 + h) (by omega) (by omega)]
        exact ih k (i + 1) (x + 1 + h) (by omega) (by omega) (by omega) (by omega)
      · rw [if_neg he, if_neg he, wr (x := x + c) (by omega) (by omega), wr (x := x + c + h) (by omega) (by omega)]
        exact ih k (i + 1) (x + c + h) (by omega) (by omega) (by omega) (by omega)
theorem time_spec (l : List Int) (h c : Int) (k : Nat) (hh0 : 0 ≤ h) (hh1 : h ≤ 100) (h0 : 0 ≤ c) (h1 : c ≤ 100) (hl : 1 ≤ l.length) (hn : l.length ≤ 8) (hk : 8 < k) : spec_fsTime.f k l h c = some (time l h c) := by
  unfold spec_fsTime.f
  have hf : spec_fsTime.l0 k l h c 0 l (l.length : Int) 0 = some (0 + sumf (part l h c) 0 l.length) := fsTime_l0 l h c hh0 hh1 h0 h1 hn l.length k 0 0 (by omega) (by omega) (by omega) (by omega)
  rw [hf]
  unfold time
  rw [show sumf (part l h c) 0 l.length = sumf (fun j => (if j = 0 then 0 else step l c j) + h) 0 l.length from rfl, sumf_plus]
  obtain ⟨n, hn2⟩ : ∃ n, l.length = n + 1 := ⟨l.length - 1, by omega⟩
  rw [hn2]
  congr 1
  have e : sumf (fun j => if j = 0 then 0 else step l c j) 0 (n + 1) = sumf (step l c) 1 (n + 1 - 1) := by
    conv => lhs; unfold sumf
    rw [sumf_congr (g' := step l c) n 1 (fun j hj => by simp [show j ≠ 0 from by omega])]
    simp
  rw [e]; omega
theorem times_eq (h c : Int) : spec_fsTimes.f h c = some (decide (1 ≤ h ∧ h ≤ 100) && decide (0 ≤ c ∧ c ≤ 100)) := by
  unfold spec_fsTimes.f
  simp only [in_some]
  cases decide (1 ≤ h ∧ h ≤ 100) <;> simp
theorem longest_l0 (l : List Int) (h c m : Int) (hh0 : 0 ≤ h) (hh1 : h ≤ 100) (h0 : 0 ≤ c) (h1 : c ≤ 100) (hn : l.length ≤ 8) : ∀ (d k i : Nat), i + d = l.length → d + 8 < k →
    ∃ z : Int, spec_LongestWithin.l0 k h c m l (i : Int) = some (z, true) ∧ impl_LongestWithin.l0 k h c m l (i : Int) = some (z, true) := by
  intro d
  induction d with
  | zero =>
    intro k i hi hk
    obtain ⟨k, rfl⟩ : ∃ q, k = q + 1 := ⟨k - 1, by omega⟩
    have c1 : ¬ (i : Int) < (l.length : Int) := by omega
    simp only [spec_LongestWithin.l0, impl_LongestWithin.l0, c1, if_false]
    exact ⟨_, rfl, rfl⟩
  | succ d ih =>
    intro k i hi hk
    obtain ⟨k, rfl⟩ : ∃ q, k = q + 1 := ⟨k - 1, by omega⟩
    have hw : wrap64 ((i : Int) + 1) = ((i + 1 : Nat) : Int) := up (n := l.length) (by omega) (by omega)
    have c1 : (i : Int) < (l.length : Int) := by omega
    have c2 : (0 : Int) ≤ ((i + 1 : Nat) : Int) := by omega
    have c3 : ((i + 1 : Nat) : Int) ≤ (l.length : Int) := by omega
    have hlen : (l.take (i + 1)).length = i + 1 := by rw [List.length_take]; omega
    have e1 := time_spec (l.take (i + 1)) h c k hh0 hh1 h0 h1 (by omega) (by omega) (by omega)
    have e2 := time_impl (l.take (i + 1)) h c k hh0 hh1 h0 h1 (by omega) (by omega) (by omega)
    simp only [spec_LongestWithin.l0, impl_LongestWithin.l0, c1, hw, c2, c3, if_true, Int.toNat_natCast, e1, e2, Option.bind_some]
    by_cases ht : time (l.take (i + 1)) h c ≤ m
    · simp only [ht, if_true]; exact ih k (i + 1) (by omega) (by omega)
    · simp only [ht, if_false]; exact ⟨_, rfl, rfl⟩
theorem longest_same (l : List Int) (s : ByteArray) (h c m : Int) (k : Nat) (hn : l.length ≤ 1048576) (hs : s.size ≤ 1048576) (hk : l.length + s.size + 20 < k) :
    ∃ r, spec_LongestWithin.f (k + 1) l s h c m = some r ∧ impl_LongestWithin.f (k + 1) l s h c m = some r := by
  have hA := asked_eq l s (k + 1) hn (by omega) hs (by omega)
  have hW : impl_isWordOf.f (k + 1) s (⟨#[65, 66, 67, 68, 69, 70, 71, 72, 73, 74, 75, 76, 77, 78, 79, 80, 81, 82, 83, 84, 85, 86, 87, 88, 89, 90]⟩ : ByteArray) = some (word s) := word_impl s (k + 1) (by omega) (by omega)
  unfold spec_LongestWithin.f impl_LongestWithin.f
  rw [hA, hW, alpha_impl, times_eq, in_some, within_some, within_some, within_some]
  simp only [Option.bind_some]
  cases ha : alpha l
  · exact ⟨(0, false), by simp [spec_LongestWithin.j0], by simp [impl_LongestWithin.j0]⟩
  cases hw : word s
  · exact ⟨(0, false), by simp [spec_LongestWithin.j0], by simp [impl_LongestWithin.j0]⟩
  cases hh : decide (1 ≤ h ∧ h ≤ 100)
  · exact ⟨(0, false), by simp [spec_LongestWithin.j0], by simp [impl_LongestWithin.j0]⟩
  cases hc : decide (0 ≤ c ∧ c ≤ 100)
  · exact ⟨(0, false), by simp [spec_LongestWithin.j0], by simp [impl_LongestWithin.j0]⟩
  cases hm : decide (0 ≤ m ∧ m ≤ 10000)
  · exact ⟨(0, false), by simp [spec_LongestWithin.j0], by simp [impl_LongestWithin.j0]⟩
  have hh := of_decide_eq_true hh
  have hc := of_decide_eq_true hc
  have hwi := word_iff.1 hw
  have hl := shapes_length l s
  obtain ⟨z, e1, e2⟩ := longest_l0 (shapes l s) h c m (by omega) hh.2 hc.1 hc.2 (by omega) (shapes l s).length k 0 (by omega) (by omega)
  refine ⟨(z, true), ?_, ?_⟩
  · simp only [Bool.and_self, if_true, Bool.not_true, spec_LongestWithin.j0, Bool.false_eq_true, if_false]
    rw [shapes_spec l s k ha hw (by omega)]
    exact e1
  · simp only [if_true, Bool.not_true, impl_LongestWithin.j0, Bool.false_eq_true, if_false]
    rw [shapes_impl l s k ha hw (by omega)]
    exact e2
end Go.Proofs.Ytkhaofalaikegaa.MFnExactLongestWithin
