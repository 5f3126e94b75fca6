/- The words that the plain law behind FnExactAlikeWords needs. -/
import Derived.Test.YtopmmmggjohkeaaFGx1
import Derived.Test.YtopmmmggjohkeaaFGx2
import Derived.Test.YtopmmmggjohkeaaFGx3
import Derived.Test.YtopmmmggjohkeaaFGx4
import Derived.Test.YtopmmmggjohkeaaFGx5
import Derived.Test.YtopmmmggjohkeaaFGx6
import Derived.Test.YtopmmmggjohkeaaFGx7
import Derived.Test.YtopmmmggjohkeaaFGx8
import Derived.Test.YtopmmmggjohkeaaFGx9
import Derived.Test.YtopmmmggjohkeaaFGx10
import Derived.Test.YtopmmmggjohkeaaFGx11
import Derived.Test.YtopmmmggjohkeaaFGx12
import Derived.Test.YtopmmmggjohkeaaFGx13
import Derived.Test.YtopmmmggjohkeaaFGx14 -- home: impl_AlikeWords.f impl_IsAlphabet.f impl_IsGloss.f impl_allOf_string.f impl_allWithin.f impl_hasOnly.f impl_isWordOf.f impl_spelled.f impl_within.f laws_eqIntS.f laws_eqIntSS.f laws_eqStringS.f laws_heldIntS.f laws_heldIntSS.f laws_markIntS.f laws_markIntSS.f laws_markStringS.f laws_markText.f laws_szStringS.f laws_toIntS.f laws_toStringS.f slices_Equal_int_int.f spec_AlikeWords.f spec_fsGood.f spec_fsShapes.f spec_fsWord.f spec_l1All.f spec_l1In.f spec_l1Same.f strings_IndexByte.f
namespace Go.Proofs.Ytopmmmggjohkeaa.MFnExactAlikeWords
open Go.RowKit Go.Proofs.Ytopmmmggjohkeaa.FG Go.Proofs.YtopmmmggjohkeaaW.PrintWords Go.Proofs.YtopmmmggjohkeaaW.PrintLast Go.Proofs.YtopmmmggjohkeaaW.PrintMore
set_option linter.unusedVariables false

theorem wr {x : Int} (h0 : -4611686018427387904 ≤ x) (h1 : x ≤ 4611686018427387904) : wrap64 x = x := by unfold wrap64; omega
theorem up {i n : Nat} (h : i < n) (hn : n ≤ 4611686018427387903) : wrap64 ((i : Int) + 1) = ((i + 1 : Nat) : Int) := by rw [wr (by omega) (by omega)]; rfl
theorem rd_nat (l : List Int) (i : Nat) : rd l (i : Int) = l.getD i 0 := rfl
theorem getD_eq {α : Type} (l : List α) (i : Nat) (z : α) (h : i < l.length) : l[i]? = some (l.getD i z) := by
  rw [List.getD_eq_getElem?_getD, List.getElem?_eq_getElem h]; rfl
theorem set_next {α : Type} (l m : List α) (z : α) {i : Nat} (hl : m.length = l.length) (hi : i < l.length) (h : ∀ j, j < i → m[j]? = l[j]?) : ∀ j, j < i + 1 → (m.set i (l.getD i z))[j]? = l[j]? := by
  intro j hj
  rcases Nat.lt_or_ge j i with hji | hji
  · rw [List.getElem?_set_ne (by omega)]; exact h j hji
  · obtain rfl : j = i := by omega
    rw [List.getElem?_set_self (by omega)]; exact (getD_eq l j z hi).symm
theorem same_list {α : Type} (l m : List α) (hl : m.length = l.length) (h : ∀ j, j < l.length → m[j]? = l[j]?) : m = l := by
  apply List.ext_getElem?
  intro j
  rcases Nat.lt_or_ge j l.length with hj | hj
  · exact h j hj
  · rw [List.getElem?_eq_none (by omega), List.getElem?_eq_none (by omega)]
/-- toIntS copies. -/
theorem toIntS_l0 (l : List Int) (hn : l.length ≤ 4611686018427387903) : ∀ (d k i : Nat) (m : List Int), m.length = l.length → (∀ j, j < i → m[j]? = l[j]?) → i + d = l.length → d < k → laws_toIntS.l0 k l m (i : Int) = some l := by
  intro d
  induction d with
  | zero =>
    intro k i m hm h hi hk
    obtain ⟨k, rfl⟩ : ∃ q, k = q + 1 := ⟨k - 1, by omega⟩
    simp only [laws_toIntS.l0]
    rw [if_neg (by omega), same_list l m hm (fun j hj => h j (by omega))]
  | succ d ih =>
    intro k i m hm h hi hk
    obtain ⟨k, rfl⟩ : ∃ q, k = q + 1 := ⟨k - 1, by omega⟩
    simp only [laws_toIntS.l0]
    rw [if_pos (by omega), if_pos (by omega), if_pos (by omega), up (n := l.length) (by omega) hn, Int.toNat_natCast, rd_nat]
    exact ih k (i + 1) _ (by rw [List.length_set]; exact hm) (set_next l m 0 hm (by omega) h) (by omega) (by omega)
theorem toIntS_eq (l : List Int) (k : Nat) (hn : l.length ≤ 1048576) (hk : l.length < k) : laws_toIntS.f k l = some l := by
  unfold laws_toIntS.f
  rw [if_pos (by omega), if_pos (by omega), Int.toNat_natCast]
  exact toIntS_l0 l (by omega) l.length k 0 _ (by simp) (fun j hj => by omega) (by omega) hk
/-- eqIntS tells equal lists. -/
theorem eqIntS_l0 (l : List Int) (hn : l.length ≤ 4611686018427387903) : ∀ (d k i : Nat), i + d = l.length → d < k → laws_eqIntS.l0 k l l (i : Int) = some true := by
  intro d
  induction d with
  | zero =>
    intro k i hi hk
    obtain ⟨k, rfl⟩ : ∃ q, k = q + 1 := ⟨k - 1, by omega⟩
    simp only [laws_eqIntS.l0]
    rw [if_neg (by omega)]
  | succ d ih =>
    intro k i hi hk
    obtain ⟨k, rfl⟩ : ∃ q, k = q + 1 := ⟨k - 1, by omega⟩
    simp only [laws_eqIntS.l0]
    rw [if_pos (by omega), if_pos (by omega), if_pos (by omega), if_pos trivial, up (n := l.length) (by omega) hn]
    exact ih k (i + 1) (by omega) (by omega)
theorem eqIntS_self (l : List Int) (k : Nat) (hn : l.length ≤ 1048576) (hk : l.length < k) : laws_eqIntS.f k l l = some true := by
  unfold laws_eqIntS.f
  rw [if_pos rfl]
  exact eqIntS_l0 l (by omega) l.length k 0 (by omega) hk

theorem in_some (a b c : Int) : spec_l1In.f a b c = some (decide (b ≤ a ∧ a ≤ c)) := by
  unfold spec_l1In.f
  by_cases h : b ≤ a <;> simp [h]
theorem within_some (a b c : Int) : impl_within.f a b c = some (decide (b ≤ a ∧ a ≤ c)) := by
  unfold impl_within.f
  by_cases h : b ≤ a <;> simp [h]
/-- Something holds for the d places from i on. -/
def from_ (p : Nat → Bool) (i d : Nat) : Bool := (List.range' i d).all p
theorem from_zero (p : Nat → Bool) (i : Nat) : from_ p i 0 = true := rfl
theorem from_succ (p : Nat → Bool) (i d : Nat) : from_ p i (d + 1) = (p i && from_ p (i + 1) d) := by
  unfold from_; rw [List.range'_succ]; rfl
theorem from_iff (p : Nat → Bool) (n : Nat) : from_ p 0 n = true ↔ ∀ i, i < n → p i = true := by
  unfold from_
  rw [List.all_eq_true]
  exact ⟨fun h i hi => h i (by rw [List.mem_range']; exact ⟨i, hi, by omega⟩), fun h i hi => h i (by rw [List.mem_range'] at hi; obtain ⟨j, hj, rfl⟩ := hi; omega)⟩
theorem from_rd (p : Int → Bool) (l : List Int) : from_ (fun i => p (rd l (i : Int))) 0 l.length = l.all p := by
  rw [Bool.eq_iff_iff, from_iff, List.all_eq_true]
  constructor
  · intro h x hx
    obtain ⟨i, hi, rfl⟩ := List.getElem_of_mem hx
    have := h i hi
    rwa [rd_nat, List.getD_eq_getElem?_getD, List.getElem?_eq_getElem hi] at this
  · intro h i hi
    rw [rd_nat, List.getD_eq_getElem?_getD, List.getElem?_eq_getElem hi]
    exact h _ (List.getElem_mem hi)
theorem l1All_l0 (l : List Int) (lo hi : Int) (hn : l.length ≤ 4611686018427387903) : ∀ (d k i : Nat), i + d = l.length → d < k →
    spec_l1All.l0 k lo hi l (l.length : Int) (i : Int) = some (from_ (fun j => decide (lo ≤ rd l (j : Int) ∧ rd l (j : Int) ≤ hi)) i d) := by
  intro d
  induction d with
  | zero =>
    intro k i hi hk
    obtain ⟨k, rfl⟩ : ∃ q, k = q + 1 := ⟨k - 1, by omega⟩
    simp only [spec_l1All.l0]
    rw [if_neg (by omega), from_zero]
  | succ d ih =>
    intro k i hi hk
    obtain ⟨k, rfl⟩ : ∃ q, k = q + 1 := ⟨k - 1, by omega⟩
    simp only [spec_l1All.l0]
    rw [if_pos (by omega), if_pos (by omega), if_pos (by omega), in_some, from_succ, up (n := l.length) (by omega) hn, ih k (i + 1) (by omega) (by omega)]
    simp only [Option.bind_some]
    cases decide (lo ≤ rd l (i : Int) ∧ rd l (i : Int) ≤ _) <;> rfl
theorem l1All_eq (l : List Int) (lo hi : Int) (k : Nat) (hn : l.length ≤ 1048576) (hk : l.length < k) : spec_l1All.f k l lo hi = some (l.all fun x => decide (lo ≤ x ∧ x ≤ hi)) := by
  unfold spec_l1All.f
  rw [← from_rd]
  exact l1All_l0 l lo hi (by omega) l.length k 0 (by omega) hk
theorem allWithin_eq (l : List Int) (lo hi : Int) : impl_allWithin.f l lo hi = some (l.all fun x => decide (lo ≤ x ∧ x ≤ hi)) := by
  unfold impl_allWithin.f
  rw [List.not_any_eq_all_not]
  simp
/-- Is this an alphabet? -/
def alpha (l : List Int) : Bool := decide (l.length = 26) && l.all fun x => decide (0 ≤ x ∧ x ≤ 999)
theorem alpha_impl (l : List Int) : impl_IsAlphabet.f l = some (alpha l) := by
  unfold impl_IsAlphabet.f alpha
  by_cases h : l.length = 26
  · rw [if_pos (by omega), allWithin_eq]; simp [h]
  · rw [if_neg (by omega)]; simp [h]
theorem alpha_spec (l : List Int) (k : Nat) (hn : l.length ≤ 1048576) (hk : l.length < k) : spec_fsGood.f k l = some (alpha l) := by
  unfold spec_fsGood.f alpha
  by_cases h : l.length = 26
  · rw [if_pos (by omega), l1All_eq l 0 999 k hn hk]; simp [h]
  · rw [if_neg (by omega)]; simp [h]
theorem alpha_len {l : List Int} (h : alpha l = true) : l.length = 26 := by
  unfold alpha at h; simp at h; exact h.1
/-- The capitals. -/
def caps : ByteArray := ⟨#[65, 66, 67, 68, 69, 70, 71, 72, 73, 74, 75, 76, 77, 78, 79, 80, 81, 82, 83, 84, 85, 86, 87, 88, 89, 90]⟩
theorem caps_fin : ∀ n ∈ List.range 256, (strings_IndexByte.f caps (n : Int)).map (fun x => decide (x < 0)) = some (!decide (65 ≤ n ∧ n ≤ 90)) := by decide +kernel
theorem caps_at (s : ByteArray) (i : Int) : ∃ x, strings_IndexByte.f caps (bt s i) = some x ∧ (x < 0 ↔ ¬ (65 ≤ bt s i ∧ bt s i ≤ 90)) := by
  obtain ⟨h0, h1⟩ := bt_range s i
  have h := caps_fin (bt s i).toNat (List.mem_range.2 (by omega))
  rw [Int.toNat_of_nonneg h0] at h
  obtain ⟨x, hx⟩ : ∃ x, strings_IndexByte.f caps (bt s i) = some x := ⟨_, rfl⟩
  rw [hx] at h
  refine ⟨x, hx, ?_⟩
  have h : decide (x < 0) = !decide (65 ≤ (bt s i).toNat ∧ (bt s i).toNat ≤ 90) := Option.some.inj h
  constructor
  · intro hx0 hc
    rw [decide_eq_true hx0, decide_eq_true (⟨by omega, by omega⟩ : 65 ≤ (bt s i).toNat ∧ (bt s i).toNat ≤ 90)] at h
    cases h
  · intro hc
    by_cases hx0 : x < 0
    · exact hx0
    · rw [decide_eq_false hx0, decide_eq_false (fun h2 => hc ⟨by omega, by omega⟩ : ¬ (65 ≤ (bt s i).toNat ∧ (bt s i).toNat ≤ 90))] at h
      cases h
def cap (s : ByteArray) (i : Nat) : Bool := decide (65 ≤ bt s (i : Int) ∧ bt s (i : Int) ≤ 90)
/-- Is this a word? -/
def word (s : ByteArray) : Bool := from_ (cap s) 0 s.size && decide (1 ≤ (s.size : Int) ∧ (s.size : Int) ≤ 8)
theorem fsWord_l0 (s : ByteArray) (hn : s.size ≤ 4611686018427387903) : ∀ (d k i : Nat), i + d = s.size → d < k →
    spec_fsWord.l0 k s (i : Int) = some (from_ (cap s) i d && decide (1 ≤ (s.size : Int) ∧ (s.size : Int) ≤ 8)) := by
  intro d
  induction d with
  | zero =>
    intro k i hi hk
    obtain ⟨k, rfl⟩ : ∃ q, k = q + 1 := ⟨k - 1, by omega⟩
    simp only [spec_fsWord.l0]
    rw [if_neg (by omega), from_zero, in_some]; rfl
  | succ d ih =>
    intro k i hi hk
    obtain ⟨k, rfl⟩ : ∃ q, k = q + 1 := ⟨k - 1, by omega⟩
    simp only [spec_fsWord.l0]
    rw [if_pos (by omega), if_pos (by omega), from_succ, up (n := s.size) (by omega) hn, ih k (i + 1) (by omega) (by omega)]
    unfold cap
    by_cases h1 : bt s (i : Int) < 65
    · rw [if_pos h1]; simp [show ¬ (65 ≤ bt s (i : Int)) from by omega]
    · rw [if_neg h1]
      by_cases h2 : bt s (i : Int) > 90
      · rw [if_pos h2]; simp [show ¬ (bt s (i : Int) ≤ 90) from by omega]
      · rw [if_neg h2]; simp [show 65 ≤ bt s (i : Int) from by omega, show bt s (i : Int) ≤ 90 from by omega]
theorem word_spec (s : ByteArray) (k : Nat) (hn : s.size ≤ 4611686018427387903) (hk : s.size < k) : spec_fsWord.f k s = some (word s) := fsWord_l0 s hn s.size k 0 (by omega) hk
theorem hasOnly_l0 (s : ByteArray) (hn : s.size ≤ 4611686018427387903) : ∀ (d k i : Nat), i + d = s.size → d < k →
    impl_hasOnly.l0 k s caps (s.size : Int) (i : Int) = some (from_ (cap s) i d) := by
  intro d
  induction d with
  | zero =>
    intro k i hi hk
    obtain ⟨k, rfl⟩ : ∃ q, k = q + 1 := ⟨k - 1, by omega⟩
    simp only [impl_hasOnly.l0]
    rw [if_neg (by omega), from_zero]
  | succ d ih =>
    intro k i hi hk
    obtain ⟨k, rfl⟩ : ∃ q, k = q + 1 := ⟨k - 1, by omega⟩
    obtain ⟨x, hx, hx2⟩ := caps_at s (i : Int)
    simp only [impl_hasOnly.l0]
    rw [if_pos (by omega), if_pos (by omega), if_pos (by omega), hx, from_succ, up (n := s.size) (by omega) hn, ih k (i + 1) (by omega) (by omega)]
    simp only [Option.bind_some]
    unfold cap
    by_cases h1 : x < 0
    · rw [if_pos h1, decide_eq_false (hx2.1 h1)]; rfl
    · rw [if_neg h1, decide_eq_true (Decidable.of_not_not (fun h2 => h1 (hx2.2 h2)))]; rfl
theorem word_impl (s : ByteArray) (k : Nat) (hn : s.size ≤ 4611686018427387903) (hk : s.size < k) : impl_isWordOf.f k s caps = some (word s) := by
  unfold impl_isWordOf.f impl_hasOnly.f word
  have hh : impl_hasOnly.l0 k s caps (s.size : Int) 0 = _ := hasOnly_l0 s hn s.size k 0 (by omega) hk
  rw [within_some, hh]
  cases h : decide (1 ≤ (s.size : Int) ∧ (s.size : Int) ≤ 8) <;> simp
theorem word_iff {s : ByteArray} : word s = true ↔ (∀ i, i < s.size → 65 ≤ bt s (i : Int) ∧ bt s (i : Int) ≤ 90) ∧ 1 ≤ s.size ∧ s.size ≤ 8 := by
  unfold word
  rw [Bool.and_eq_true, from_iff]
  simp only [cap, decide_eq_true_eq]
  exact ⟨fun ⟨h, h2⟩ => ⟨h, by omega, by omega⟩, fun ⟨h, h2, h3⟩ => ⟨h, by omega, by omega⟩⟩
/-- The shape of a letter. -/
def shape (l : List Int) (s : ByteArray) (i : Nat) : Int := rd l ((bt s (i : Int) - 65) % 256)
/-- The shapes of a word. -/
def shapes (l : List Int) (s : ByteArray) : List Int := (List.range s.size).map (shape l s)
theorem shapes_length (l : List Int) (s : ByteArray) : (shapes l s).length = s.size := by simp [shapes]
theorem take_snoc (g : Nat → Int) (i : Nat) : (List.range i).map g ++ [g i] = (List.range (i + 1)).map g := by rw [List.range_succ]; simp
theorem fsShapes_l0 (l : List Int) (s : ByteArray) (ha : alpha l = true) (hw : word s = true) : ∀ (d k i : Nat), i + d = s.size → d < k →
    spec_fsShapes.l0 k l s ((List.range i).map (shape l s)) (i : Int) = some (shapes l s) := by
  obtain ⟨hc, hs1, hs8⟩ := word_iff.1 hw
  have hl := alpha_len ha
  intro d
  induction d with
  | zero =>
    intro k i hi hk
    obtain ⟨k, rfl⟩ : ∃ q, k = q + 1 := ⟨k - 1, by omega⟩
    simp only [spec_fsShapes.l0]
    obtain rfl : i = s.size := by omega
    rw [if_neg (by omega)]; rfl
  | succ d ih =>
    intro k i hi hk
    obtain ⟨k, rfl⟩ : ∃ q, k = q + 1 := ⟨k - 1, by omega⟩
    have := hc i (by omega)
    simp only [spec_fsShapes.l0]
    rw [if_pos (by omega), if_pos (by omega), if_pos (by omega), if_pos (by omega), if_pos (by simp; omega), up (n := s.size) (by omega) (by omega)]
    rw [show rd l ((bt s (i : Int) - 65) % 256) = shape l s i from rfl, take_snoc]
    exact ih k (i + 1) (by omega) (by omega)
theorem shapes_spec (l : List Int) (s : ByteArray) (k : Nat) (ha : alpha l = true) (hw : word s = true) (hk : 8 < k) : spec_fsShapes.f k l s = some (shapes l s) := by
  have := word_iff.1 hw
  exact fsShapes_l0 l s ha hw s.size k 0 (by omega) (by omega)
theorem spelled_l0 (l : List Int) (s : ByteArray) (ha : alpha l = true) (hw : word s = true) : ∀ (d k i : Nat), i + d = s.size → d < k →
    impl_spelled.l0 k l s ((List.range i).map (shape l s)) (s.size : Int) (i : Int) = some (shapes l s) := by
  obtain ⟨hc, hs1, hs8⟩ := word_iff.1 hw
  have hl := alpha_len ha
  intro d
  induction d with
  | zero =>
    intro k i hi hk
    obtain ⟨k, rfl⟩ : ∃ q, k = q + 1 := ⟨k - 1, by omega⟩
    simp only [impl_spelled.l0]
    obtain rfl : i = s.size := by omega
    rw [if_neg (by omega)]; rfl
  | succ d ih =>
    intro k i hi hk
    obtain ⟨k, rfl⟩ : ∃ q, k = q + 1 := ⟨k - 1, by omega⟩
    have := hc i (by omega)
    simp only [impl_spelled.l0]
    rw [if_pos (by omega), if_pos (by omega), if_pos (by omega), if_pos (by omega), if_pos (by omega), if_pos (by simp; omega), up (n := s.size) (by omega) (by omega)]
    rw [show rd l ((bt s (i : Int) - 65) % 256) = shape l s i from rfl, take_snoc]
    exact ih k (i + 1) (by omega) (by omega)
theorem shapes_impl (l : List Int) (s : ByteArray) (k : Nat) (ha : alpha l = true) (hw : word s = true) (hk : 8 < k) : impl_spelled.f k l s = some (shapes l s) := by
  have := word_iff.1 hw
  exact spelled_l0 l s ha hw s.size k 0 (by omega) (by omega)
/-- Are two lists the same? -/
def same (a b : List Int) : Bool := decide (a.length = b.length) && from_ (fun j => decide (rd a (j : Int) = rd b (j : Int))) 0 a.length
theorem same_l0 (a b : List Int) (hn : a.length ≤ 4611686018427387903) (hl : a.length = b.length) : ∀ (d k i : Nat), i + d = a.length → d < k →
    spec_l1Same.l0 k a b (a.length : Int) (i : Int) = some (from_ (fun j => decide (rd a (j : Int) = rd b (j : Int))) i d) ∧
    slices_Equal_int_int.l0 k a b (a.length : Int) (i : Int) = some (from_ (fun j => decide (rd a (j : Int) = rd b (j : Int))) i d) := by
  intro d
  induction d with
  | zero =>
    intro k i hi hk
    obtain ⟨k, rfl⟩ : ∃ q, k = q + 1 := ⟨k - 1, by omega⟩
    simp only [spec_l1Same.l0, slices_Equal_int_int.l0]
    refine ⟨?_, ?_⟩ <;> rw [if_neg (by omega), from_zero]
  | succ d ih =>
    intro k i hi hk
    obtain ⟨k, rfl⟩ : ∃ q, k = q + 1 := ⟨k - 1, by omega⟩
    obtain ⟨h1, h2⟩ := ih k (i + 1) (by omega) (by omega)
    simp only [spec_l1Same.l0, slices_Equal_int_int.l0]
    refine ⟨?_, ?_⟩
    · rw [if_pos (by omega), if_pos (by omega), if_pos (by omega), if_pos (by omega), from_succ, up (n := a.length) (by omega) hn, h1]
      by_cases he : rd a (i : Int) = rd b (i : Int) <;> simp [he]
    · rw [if_pos (by omega), if_pos (by omega), if_pos (by omega), if_pos (by omega), from_succ, up (n := a.length) (by omega) hn, h2]
      by_cases he : rd a (i : Int) = rd b (i : Int) <;> simp [he]
theorem same_spec (a b : List Int) (k : Nat) (hn : a.length ≤ 1048576) (hk : a.length < k) : spec_l1Same.f k a b = some (same a b) := by
  unfold spec_l1Same.f same
  by_cases h : a.length = b.length
  · have := (same_l0 a b (by omega) h a.length k 0 (by omega) hk).1
    rw [show ((0 : Nat) : Int) = 0 from rfl] at this
    rw [if_pos (by omega), this]; simp [h]
  · rw [if_neg (by omega)]; simp [h]
theorem same_impl (a b : List Int) (k : Nat) (hn : a.length ≤ 1048576) (hk : a.length < k) : slices_Equal_int_int.f k a b = some (same a b) := by
  unfold slices_Equal_int_int.f same
  by_cases h : a.length = b.length
  · have := (same_l0 a b (by omega) h a.length k 0 (by omega) hk).2
    rw [show ((0 : Nat) : Int) = 0 from rfl] at this
    rw [if_pos (by omega), this]; simp [h]
  · rw [if_neg (by omega)]; simp [h]
theorem rd_set_lt {l : List Int} {i j : Nat} {v : Int} (h : j < i) : rd (l.set i v) (j : Int) = rd l (j : Int) := by
  rw [rd_nat, rd_nat, List.getD_eq_getElem?_getD, List.getD_eq_getElem?_getD, List.getElem?_set_ne (by omega)]
theorem rd_set_self {l : List Int} {i : Nat} {v : Int} (h : i < l.length) : rd (l.set i v) (i : Int) = v := by
  rw [rd_nat, List.getD_eq_getElem?_getD, List.getElem?_set_self h]; rfl
theorem markIntS_l0 (n : Nat) (hn : n ≤ 4611686018427387903) : ∀ (d k i : Nat) (x : Int) (l : List Int), l.length = n → 0 ≤ x → x + d ≤ 2199023255552 → (∀ j : Nat, j < i → rd l (j : Int) = x - i + j) → i + d = n → d < k →
    ∃ m : List Int, laws_markIntS.l0 k l x (i : Int) = some (x + d, m) ∧ m.length = n ∧ ∀ j : Nat, j < n → rd m (j : Int) = x - i + j := by
  intro d
  induction d with
  | zero =>
    intro k i x l hl h0 h1 h hi hk
    obtain ⟨k, rfl⟩ : ∃ q, k = q + 1 := ⟨k - 1, by omega⟩
    refine ⟨l, ?_, hl, fun j hj => h j (by omega)⟩
    simp only [laws_markIntS.l0]
    rw [if_neg (by omega)]; simp
  | succ d ih =>
    intro k i x l hl h0 h1 h hi hk
    obtain ⟨k, rfl⟩ : ∃ q, k = q + 1 := ⟨k - 1, by omega⟩
    obtain ⟨m, hm, hm2, hm3⟩ := ih k (i + 1) (x + 1) (l.set i x) (by rw [List.length_set]; exact hl) (by omega) (by omega) (fun j hj => by
      rcases Nat.lt_or_ge j i with hji | hji
      · rw [rd_set_lt hji, h j hji]; omega
      · obtain rfl : j = i := by omega
        rw [rd_set_self (by omega)]; omega) (by omega) (by omega)
    refine ⟨m, ?_, hm2, fun j hj => by rw [hm3 j hj]; omega⟩
    simp only [laws_markIntS.l0]
    rw [if_pos (by omega), if_pos (by omega), up (n := n) (by omega) (by omega), wr (x := x + 1) (by omega) (by omega), Int.toNat_natCast, hm]
    congr 2; omega
/-- Marks are laid one behind the other. -/
theorem markIntS_eq (l : List Int) (k : Nat) (x : Int) (h0 : 0 ≤ x) (h1 : x + l.length ≤ 2199023255552) (hk : l.length < k) :
    ∃ m : List Int, laws_markIntS.f k l x = some (x + l.length, m) ∧ m.length = l.length ∧ ∀ j : Nat, j < l.length → rd m (j : Int) = x + j := by
  obtain ⟨m, h2, h3, h4⟩ := markIntS_l0 l.length (by omega) l.length k 0 x l rfl h0 h1 (fun j hj => by omega) (by omega) hk
  exact ⟨m, h2, h3, fun j hj => by rw [h4 j hj]; omega⟩
theorem heldIntS_l0 (m : List Int) (a : Int) (h0 : 0 ≤ a) (h1 : a + m.length ≤ 2199023255552) (h : ∀ j : Nat, j < m.length → rd m (j : Int) = a + j) : ∀ (d k i : Nat), i + d = m.length → d < k →
    laws_heldIntS.l0 k m (a + i) (i : Int) = some (a + m.length) := by
  intro d
  induction d with
  | zero =>
    intro k i hi hk
    obtain ⟨k, rfl⟩ : ∃ q, k = q + 1 := ⟨k - 1, by omega⟩
    simp only [laws_heldIntS.l0]
    rw [if_neg (by omega)]; congr 1; omega
  | succ d ih =>
    intro k i hi hk
    obtain ⟨k, rfl⟩ : ∃ q, k = q + 1 := ⟨k - 1, by omega⟩
    simp only [laws_heldIntS.l0]
    rw [if_pos (by omega), if_pos (by omega), if_pos (h i (by omega)), up (n := m.length) (by omega) (by omega), wr (x := a + i + 1) (by omega) (by omega)]
    rw [show a + (i : Int) + 1 = a + ((i + 1 : Nat) : Int) from by omega]
    exact ih k (i + 1) (by omega) (by omega)
theorem heldIntS_eq (m : List Int) (k : Nat) (a : Int) (h0 : 0 ≤ a) (h1 : a + m.length ≤ 2199023255552) (h : ∀ j : Nat, j < m.length → rd m (j : Int) = a + j) (hk : m.length < k) : laws_heldIntS.f k m a = some (a + m.length) := by
  unfold laws_heldIntS.f
  have := heldIntS_l0 m a h0 h1 h m.length k 0 (by omega) hk
  simpa using this
theorem eqStringS_l0 (l : List ByteArray) (hn : l.length ≤ 4611686018427387903) : ∀ (d k i : Nat), i + d = l.length → d < k → laws_eqStringS.l0 k l l (i : Int) = some true := by
  intro d
  induction d with
  | zero =>
    intro k i hi hk
    obtain ⟨k, rfl⟩ : ∃ q, k = q + 1 := ⟨k - 1, by omega⟩
    simp only [laws_eqStringS.l0]
    rw [if_neg (by omega)]
  | succ d ih =>
    intro k i hi hk
    obtain ⟨k, rfl⟩ : ∃ q, k = q + 1 := ⟨k - 1, by omega⟩
    simp only [laws_eqStringS.l0]
    rw [if_pos (by omega), if_pos (by omega), if_pos (by omega), if_pos trivial, up (n := l.length) (by omega) hn]
    exact ih k (i + 1) (by omega) (by omega)
theorem eqStringS_self (l : List ByteArray) (k : Nat) (hn : l.length ≤ 1048576) (hk : l.length < k) : laws_eqStringS.f k l l = some true := by
  unfold laws_eqStringS.f
  rw [if_pos rfl]
  exact eqStringS_l0 l (by omega) l.length k 0 (by omega) hk
theorem sz_one (x : Int) : (strOfNums [x]).size = 1 := rfl
theorem markText_l0 : ∀ (n : Nat) (x : Int) (a : ByteArray), 0 ≤ x → x ≤ 4611686018427387903 → x < 10 ^ n → n ≤ 15 → a.size + n ≤ 1000 → ∃ t, ∀ k, n < k → laws_markText.l0 k x a = some t := by
  intro n
  induction n with
  | zero =>
    intro x a h0 hx h1 h2 h3
    refine ⟨(⟨#[109]⟩ : ByteArray) ++ a, fun k hk => ?_⟩
    obtain ⟨k, rfl⟩ : ∃ q, k = q + 1 := ⟨k - 1, by omega⟩
    simp only [Int.pow_zero] at h1
    simp only [laws_markText.l0]
    rw [if_neg (by omega), if_pos (by omega)]
  | succ n ih =>
    intro x a h0 hx h1 h2 h3
    by_cases hz : x = 0
    · subst hz
      refine ⟨(⟨#[109]⟩ : ByteArray) ++ a, fun k hk => ?_⟩
      obtain ⟨k, rfl⟩ : ∃ q, k = q + 1 := ⟨k - 1, by omega⟩
      simp only [laws_markText.l0]
      rw [if_neg (by omega), if_pos (by omega)]
    · have hp : (10 : Int) ^ (n + 1) = 10 * 10 ^ n := by rw [Int.pow_succ]; omega
      have ht : Int.tdiv x 10 = x / 10 := Int.tdiv_eq_ediv_of_nonneg h0
      have hw : wrap64 (Int.tdiv x 10) = x / 10 := by rw [ht, wr (by omega) (by omega)]
      obtain ⟨t, ht2⟩ := ih (x / 10) (strOfNums [(wrap64 (48 + (Int.tmod x 10))) % 256] ++ a) (by omega) (by omega) (by omega) (by omega) (by rw [ByteArray.size_append, sz_one]; omega)
      refine ⟨t, fun k hk => ?_⟩
      obtain ⟨k, rfl⟩ : ∃ q, k = q + 1 := ⟨k - 1, by omega⟩
      simp only [laws_markText.l0]
      rw [if_pos (by omega)]
      simp only [Option.bind_some]
      rw [if_pos (by rw [sz_one]; omega), hw]
      exact ht2 k (by omega)
/-- A mark's text. -/
theorem markText_some (x : Int) (h0 : 0 ≤ x) (h1 : x ≤ 2199023255552) : ∃ t, ∀ k, 15 < k → laws_markText.f k x = some t := by
  unfold laws_markText.f
  by_cases hz : x ≤ 0
  · exact ⟨_, fun k hk => by rw [if_pos hz]⟩
  · obtain ⟨t, ht⟩ := markText_l0 15 x ⟨#[]⟩ h0 (by omega) (Int.lt_of_le_of_lt h1 (by decide)) (by omega) (by decide)
    exact ⟨t, fun k hk => by rw [if_neg hz]; exact ht k hk⟩
theorem rdOf_nat {α : Type} (z : α) (l : List α) (i : Nat) : rdOf z l (i : Int) = l.getD i z := rfl
theorem rdOf_set_lt {α : Type} {z : α} {l : List α} {i j : Nat} {v : α} (h : j < i) : rdOf z (l.set i v) (j : Int) = rdOf z l (j : Int) := by
  rw [rdOf_nat, rdOf_nat, List.getD_eq_getElem?_getD, List.getD_eq_getElem?_getD, List.getElem?_set_ne (by omega)]
theorem rdOf_set_self {α : Type} {z : α} {l : List α} {i : Nat} {v : α} (h : i < l.length) : rdOf z (l.set i v) (i : Int) = v := by
  rw [rdOf_nat, List.getD_eq_getElem?_getD, List.getElem?_set_self h]; rfl
theorem markStringS_l0 (n : Nat) (hn : n ≤ 4611686018427387903) : ∀ (d k i : Nat) (x : Int) (l : List ByteArray), l.length = n → 0 ≤ x → (i : Int) ≤ x → x + d ≤ 2199023255552 → (∀ (j : Nat) q, j < i → 15 < q → laws_markText.f q (x - i + j) = some (rdOf ByteArray.empty l (j : Int))) → i + d = n → d + 20 < k →
    ∃ m : List ByteArray, laws_markStringS.l0 k l x (i : Int) = some (x + d, m) ∧ m.length = n ∧ ∀ (j : Nat) q, j < n → 15 < q → laws_markText.f q (x - i + j) = some (rdOf ByteArray.empty m (j : Int)) := by
  intro d
  induction d with
  | zero =>
    intro k i x l hl h0 hix h1 h hi hk
    obtain ⟨k, rfl⟩ : ∃ q, k = q + 1 := ⟨k - 1, by omega⟩
    refine ⟨l, ?_, hl, fun j q hj hq => h j q (by omega) hq⟩
    simp only [laws_markStringS.l0]
    rw [if_neg (by omega)]; simp
  | succ d ih =>
    intro k i x l hl h0 hix h1 h hi hk
    obtain ⟨k, rfl⟩ : ∃ q, k = q + 1 := ⟨k - 1, by omega⟩
    obtain ⟨t, ht⟩ := markText_some x h0 (by omega)
    obtain ⟨m, hm, hm2, hm3⟩ := ih k (i + 1) (x + 1) (l.set i t) (by rw [List.length_set]; exact hl) (by omega) (by omega) (by omega) (fun j q hj hq => by
      rcases Nat.lt_or_ge j i with hji | hji
      · rw [rdOf_set_lt hji, ← h j q hji hq]; congr 1; omega
      · obtain rfl : j = i := by omega
        rw [rdOf_set_self (by omega), ← ht q hq]; congr 1; omega) (by omega) (by omega)
    refine ⟨m, ?_, hm2, fun j q hj hq => by rw [← hm3 j q hj hq]; congr 1; omega⟩
    simp only [laws_markStringS.l0]
    rw [if_pos (by omega), ht k (by omega)]
    simp only [Option.bind_some]
    rw [if_pos (by omega), up (n := n) (by omega) (by omega), wr (x := x + 1) (by omega) (by omega), Int.toNat_natCast, hm]
    congr 2; omega
theorem markStringS_eq (l : List ByteArray) (k : Nat) (x : Int) (h0 : 0 ≤ x) (h1 : x + l.length ≤ 2199023255552) (hk : l.length + 20 < k) :
    ∃ m : List ByteArray, laws_markStringS.f k l x = some (x + l.length, m) ∧ m.length = l.length ∧ ∀ (j : Nat) q, j < l.length → 15 < q → laws_markText.f q (x + j) = some (rdOf ByteArray.empty m (j : Int)) := by
  obtain ⟨m, h2, h3, h4⟩ := markStringS_l0 l.length (by omega) l.length k 0 x l rfl h0 (by omega) h1 (fun j q hj => by omega) (by omega) hk
  exact ⟨m, h2, h3, fun j q hj hq => by rw [← h4 j q hj hq]; congr 1; omega⟩
/-- The word at a place. -/
def wat (ws : List ByteArray) (i : Nat) : ByteArray := ws.getD i ByteArray.empty
theorem rdOf_wat (ws : List ByteArray) (i : Nat) : rdOf ByteArray.empty ws (i : Int) = wat ws i := rfl
theorem wat_mem {ws : List ByteArray} {i : Nat} (h : i < ws.length) : wat ws i ∈ ws := by
  unfold wat
  rw [List.getD_eq_getElem?_getD, List.getElem?_eq_getElem h]
  exact List.getElem_mem h
def pairRow (l : List Int) (ws : List ByteArray) (i : Nat) : List (List Int) → Nat → Nat → List (List Int)
  | acc, _, 0 => acc
  | acc, j, d + 1 => pairRow l ws i (if same (shapes l (wat ws i)) (shapes l (wat ws j)) = true then acc ++ [[(i : Int), (j : Int)]] else acc) (j + 1) d
def pairRows (l : List Int) (ws : List ByteArray) : List (List Int) → Nat → Nat → List (List Int)
  | acc, _, 0 => acc
  | acc, i, d + 1 => pairRows l ws (pairRow l ws i acc (i + 1) (ws.length - (i + 1))) (i + 1) d
theorem pairRow_len (l : List Int) (ws : List ByteArray) (i : Nat) : ∀ (d j : Nat) (acc : List (List Int)), (pairRow l ws i acc j d).length ≤ acc.length + d
  | 0, j, acc => Nat.le_refl _
  | d + 1, j, acc => by
    unfold pairRow
    refine Nat.le_trans (pairRow_len l ws i d (j + 1) _) ?_
    split
    · rw [List.length_append, List.length_singleton]; omega
    · omega
theorem pairRow_two (l : List Int) (ws : List ByteArray) (i : Nat) : ∀ (d j : Nat) (acc : List (List Int)), (∀ r ∈ acc, r.length ≤ 2) → ∀ r ∈ pairRow l ws i acc j d, r.length ≤ 2
  | 0, j, acc, h => h
  | d + 1, j, acc, h => by
    unfold pairRow
    refine pairRow_two l ws i d (j + 1) _ ?_
    split
    · intro r hr
      rcases List.mem_append.1 hr with hr | hr
      · exact h r hr
      · rw [List.mem_singleton] at hr; subst hr; simp
    · exact h
theorem pairRows_len (l : List Int) (ws : List ByteArray) (h20 : ws.length ≤ 20) : ∀ (d i : Nat) (acc : List (List Int)), (pairRows l ws acc i d).length ≤ acc.length + 20 * d
  | 0, i, acc => by unfold pairRows; omega
  | d + 1, i, acc => by
    unfold pairRows
    have h1 := pairRows_len l ws h20 d (i + 1) (pairRow l ws i acc (i + 1) (ws.length - (i + 1)))
    have h2 := pairRow_len l ws i (ws.length - (i + 1)) (i + 1) acc
    omega
theorem pairRows_two (l : List Int) (ws : List ByteArray) : ∀ (d i : Nat) (acc : List (List Int)), (∀ r ∈ acc, r.length ≤ 2) → ∀ r ∈ pairRows l ws acc i d, r.length ≤ 2
  | 0, i, acc, h => h
  | d + 1, i, acc, h => by
    unfold pairRows
    exact pairRows_two l ws d (i + 1) _ (pairRow_two l ws i _ _ acc h)
theorem pair_impl_l1 (l : List Int) (ws : List ByteArray) (ha : alpha l = true) (hw : ∀ x ∈ ws, word x = true) (h20 : ws.length ≤ 20) (i : Nat) (hi : i < ws.length) : ∀ (d k j : Nat) (acc : List (List Int)), j + d = ws.length → acc.length + d ≤ 10000 → 30 ≤ k →
    impl_AlikeWords.l1 (k + d + 1) l ws acc (i : Int) (wat ws i) (j : Int) ws (ws.length : Int) (i : Int) = impl_AlikeWords.l0 k l ws (pairRow l ws i acc j d) ws (ws.length : Int) ((i + 1 : Nat) : Int) := by
  intro d
  have hwi := hw _ (wat_mem hi)
  have h8 := word_iff.1 hwi
  have hl := shapes_length l (wat ws i)
  induction d with
  | zero =>
    intro k j acc hj hl hk
    rw [impl_AlikeWords.l1, if_neg (by omega), up (n := ws.length) hi (by omega)]; rfl
  | succ d ih =>
    intro k j acc hj hla hk
    have hjl : j < ws.length := by omega
    have hwj := hw _ (wat_mem hjl)
    rw [show k + (d + 1) + 1 = (k + d + 1) + 1 from by omega, impl_AlikeWords.l1, if_pos (by omega), shapes_impl l _ _ ha hwi (by omega), Option.bind_some, if_pos (by omega), rdOf_wat, shapes_impl l _ _ ha hwj (by omega), Option.bind_some, same_impl _ _ _ (by omega) (by omega), Option.bind_some, up (n := ws.length) hjl (by omega)]
    unfold pairRow
    cases same (shapes l (wat ws i)) (shapes l (wat ws j))
    · rw [if_neg Bool.false_ne_true, if_neg Bool.false_ne_true]
      exact ih k (j + 1) acc (by omega) (by omega) hk
    · rw [if_pos rfl, if_pos rfl, if_pos (by omega)]
      exact ih k (j + 1) _ (by omega) (by rw [List.length_append, List.length_singleton]; omega) hk
theorem pair_impl_l0 (l : List Int) (ws : List ByteArray) (ha : alpha l = true) (hw : ∀ x ∈ ws, word x = true) (h20 : ws.length ≤ 20) : ∀ (d k i : Nat) (acc : List (List Int)), i + d = ws.length → acc.length + 20 * d ≤ 1000 → 30 * d + 40 ≤ k →
    impl_AlikeWords.l0 k l ws acc ws (ws.length : Int) (i : Int) = some (pairRows l ws acc i d, true) := by
  intro d
  induction d with
  | zero =>
    intro k i acc hi hl hk
    obtain ⟨k, rfl⟩ : ∃ q, k = q + 1 := ⟨k - 1, by omega⟩
    rw [impl_AlikeWords.l0, if_neg (by omega)]; rfl
  | succ d ih =>
    intro k i acc hi hl hk
    obtain ⟨k, rfl⟩ : ∃ q, k = (q + (ws.length - (i + 1)) + 1) + 1 := ⟨k - (ws.length - (i + 1)) - 2, by omega⟩
    have hil : i < ws.length := by omega
    have h1 := pair_impl_l1 l ws ha hw h20 i hil (ws.length - (i + 1)) k (i + 1) acc (by omega) (by omega) (by omega)
    have h2 := pairRow_len l ws i (ws.length - (i + 1)) (i + 1) acc
    rw [impl_AlikeWords.l0, if_pos (by omega), if_pos (by omega), if_pos (by omega), up (n := ws.length) hil (by omega), rdOf_wat, h1]
    unfold pairRows
    exact ih k (i + 1) _ (by omega) (by omega) (by omega)
theorem pair_spec_l2 (l : List Int) (ws : List ByteArray) (ha : alpha l = true) (hw : ∀ x ∈ ws, word x = true) (h20 : ws.length ≤ 20) (i : Nat) (hi : i < ws.length) : ∀ (d k j : Nat) (acc : List (List Int)), j + d = ws.length → acc.length + d ≤ 10000 → 30 ≤ k →
    spec_AlikeWords.l2 (k + d + 1) l ws acc (i : Int) (wat ws i) (j : Int) ws (ws.length : Int) (i : Int) = spec_AlikeWords.l1 k l ws (pairRow l ws i acc j d) ws (ws.length : Int) ((i + 1 : Nat) : Int) := by
  intro d
  have hwi := hw _ (wat_mem hi)
  have h8 := word_iff.1 hwi
  have hl := shapes_length l (wat ws i)
  induction d with
  | zero =>
    intro k j acc hj hl hk
    rw [spec_AlikeWords.l2, if_neg (by omega), up (n := ws.length) hi (by omega)]; rfl
  | succ d ih =>
    intro k j acc hj hla hk
    have hjl : j < ws.length := by omega
    have hwj := hw _ (wat_mem hjl)
    rw [show k + (d + 1) + 1 = (k + d + 1) + 1 from by omega, spec_AlikeWords.l2, if_pos (by omega), shapes_spec l _ _ ha hwi (by omega), Option.bind_some, if_pos (by omega), rdOf_wat, shapes_spec l _ _ ha hwj (by omega), Option.bind_some, same_spec _ _ _ (by omega) (by omega), Option.bind_some, up (n := ws.length) hjl (by omega)]
    unfold pairRow
    cases same (shapes l (wat ws i)) (shapes l (wat ws j))
    · rw [if_neg Bool.false_ne_true, if_neg Bool.false_ne_true]
      exact ih k (j + 1) acc (by omega) (by omega) hk
    · rw [if_pos rfl, if_pos rfl, if_pos (by omega)]
      exact ih k (j + 1) _ (by omega) (by rw [List.length_append, List.length_singleton]; omega) hk
theorem pair_spec_l1 (l : List Int) (ws : List ByteArray) (ha : alpha l = true) (hw : ∀ x ∈ ws, word x = true) (h20 : ws.length ≤ 20) : ∀ (d k i : Nat) (acc : List (List Int)), i + d = ws.length → acc.length + 20 * d ≤ 1000 → 30 * d + 40 ≤ k →
    spec_AlikeWords.l1 k l ws acc ws (ws.length : Int) (i : Int) = some (pairRows l ws acc i d, true) := by
  intro d
  induction d with
  | zero =>
    intro k i acc hi hl hk
    obtain ⟨k, rfl⟩ : ∃ q, k = q + 1 := ⟨k - 1, by omega⟩
    rw [spec_AlikeWords.l1, if_neg (by omega)]; rfl
  | succ d ih =>
    intro k i acc hi hl hk
    obtain ⟨k, rfl⟩ : ∃ q, k = (q + (ws.length - (i + 1)) + 1) + 1 := ⟨k - (ws.length - (i + 1)) - 2, by omega⟩
    have hil : i < ws.length := by omega
    have h1 := pair_spec_l2 l ws ha hw h20 i hil (ws.length - (i + 1)) k (i + 1) acc (by omega) (by omega) (by omega)
    have h2 := pairRow_len l ws i (ws.length - (i + 1)) (i + 1) acc
    rw [spec_AlikeWords.l1, if_pos (by omega), if_pos (by omega), if_pos (by omega), up (n := ws.length) hil (by omega), rdOf_wat, h1]
    unfold pairRows
    exact ih k (i + 1) _ (by omega) (by omega) (by omega)
theorem pair_spec_l0 (l : List Int) (ws : List ByteArray) (ha : alpha l = true) (h20 : ws.length ≤ 20) (B : Nat) (hB : ∀ x ∈ ws, x.size ≤ B) (hB2 : B ≤ 4611686018427387903) : ∀ (d k i : Nat), i + d = ws.length → (∀ j, j < i → word (wat ws j) = true) → B + 1000 + d ≤ k →
    spec_AlikeWords.l0 k l ws ws (ws.length : Int) (i : Int) = some (if (ws.all word) = true then (pairRows l ws [] 0 ws.length, true) else ([], false)) := by
  intro d
  induction d with
  | zero =>
    intro k i hi h hk
    obtain ⟨k, rfl⟩ : ∃ q, k = q + 1 := ⟨k - 1, by omega⟩
    have hall : ws.all word = true := List.all_eq_true.2 fun x hx => by
      obtain ⟨j, hj, rfl⟩ := List.getElem_of_mem hx
      have := h j (by omega)
      unfold wat at this
      rwa [List.getD_eq_getElem?_getD, List.getElem?_eq_getElem hj] at this
    have h1 := pair_spec_l1 l ws ha (fun x hx => List.all_eq_true.1 hall x hx) h20 ws.length k 0 [] (by omega) (by simp; omega) (by omega)
    rw [spec_AlikeWords.l0, if_neg (by omega), if_pos hall]
    exact h1
  | succ d ih =>
    intro k i hi h hk
    obtain ⟨k, rfl⟩ : ∃ q, k = q + 1 := ⟨k - 1, by omega⟩
    have hil : i < ws.length := by omega
    have hs := hB _ (wat_mem hil)
    rw [spec_AlikeWords.l0, if_pos (by omega), if_pos (by omega), if_pos (by omega), rdOf_wat, word_spec _ k (by omega) (by omega), Option.bind_some, up (n := ws.length) hil (by omega)]
    cases hwd : word (wat ws i)
    · rw [if_neg Bool.false_ne_true, if_neg (fun ha => by
        have := List.all_eq_true.1 ha _ (wat_mem hil)
        rw [hwd] at this; cases this)]
    · rw [if_pos rfl]
      refine ih k (i + 1) (by omega) (fun j hj => ?_) (by omega)
      rcases Nat.lt_or_ge j i with hji | hji
      · exact h j hji
      · obtain rfl : j = i := by omega
        exact hwd
/-- Words that look alike, two by two. -/
def pairs (l : List Int) (ws : List ByteArray) : List (List Int) × Bool := if (alpha l && (decide (ws.length ≤ 20) && ws.all word)) = true then (pairRows l ws [] 0 ws.length, true) else ([], false)
theorem pairs_len (l : List Int) (ws : List ByteArray) : (pairs l ws).1.length ≤ 400 := by
  unfold pairs
  split
  · rename_i h
    simp only [Bool.and_eq_true, decide_eq_true_eq] at h
    have := pairRows_len l ws h.2.1 ws.length 0 []
    simp at this ⊢
    omega
  · simp
theorem pairs_two (l : List Int) (ws : List ByteArray) : ∀ r ∈ (pairs l ws).1, r.length ≤ 2 := by
  unfold pairs
  split
  · exact pairRows_two l ws _ _ [] (fun r hr => by cases hr)
  · intro r hr; cases hr
theorem gloss_eq (s : ByteArray) (k : Nat) (hn : s.size ≤ 4611686018427387903) (hk : s.size < k) : impl_IsGloss.f k s = some (word s) := by
  have hW : impl_isWordOf.f k s (⟨#[65, 66, 67, 68, 69, 70, 71, 72, 73, 74, 75, 76, 77, 78, 79, 80, 81, 82, 83, 84, 85, 86, 87, 88, 89, 90]⟩ : ByteArray) = some (word s) := word_impl s k hn hk
  unfold impl_IsGloss.f
  rw [hW]; rfl
theorem all_gloss (ws : List ByteArray) (B k : Nat) (hB : ∀ x ∈ ws, x.size ≤ B) (hB2 : B ≤ 4611686018427387903) (hk : B < k) : impl_allOf_string.f k ws = some (ws.all word) := by
  unfold impl_allOf_string.f
  rw [if_pos (List.all_eq_true.2 fun x hx => by
    have := hB x hx
    rw [gloss_eq x k (by omega) (by omega)]; rfl)]
  congr 1
  rw [Bool.eq_iff_iff, List.all_eq_true, List.all_eq_true]
  have e : ∀ x ∈ ws, impl_allOf_string.p k x = word x := fun x hx => by
    have := hB x hx
    unfold impl_allOf_string.p
    rw [gloss_eq x k (by omega) (by omega)]
    cases word x <;> rfl
  exact ⟨fun h x hx => (e x hx).symm.trans (h x hx), fun h x hx => (e x hx).trans (h x hx)⟩
theorem pairs_eq (l : List Int) (ws : List ByteArray) (B k : Nat) (hl : l.length ≤ 1048576) (hB : ∀ x ∈ ws, x.size ≤ B) (hB2 : B ≤ 4611686018427387903) (hk : l.length + B + 3000 ≤ k) :
    spec_AlikeWords.f k l ws = some (pairs l ws) ∧ impl_AlikeWords.f k l ws = some (pairs l ws) := by
  have hG := all_gloss ws B k hB hB2 (by omega)
  obtain ⟨k, rfl⟩ : ∃ q, k = q + 1 := ⟨k - 1, by omega⟩
  unfold spec_AlikeWords.f impl_AlikeWords.f pairs
  rw [alpha_spec l (k + 1) hl (by omega), alpha_impl]
  simp only [Option.bind_some]
  cases ha : alpha l
  · simp [spec_AlikeWords.j0, impl_AlikeWords.j0]
  · by_cases h20 : ws.length ≤ 20
    · have h1 := pair_spec_l0 l ws ha h20 B hB hB2 ws.length k 0 (by omega) (fun j hj => by omega) (by omega)
      rw [show ((0 : Nat) : Int) = 0 from rfl] at h1
      rw [hG]
      have hn : ¬ ((ws.length : Int) > 20) := by omega
      simp only [if_true, hn, if_false, decide_false, Option.bind_some, spec_AlikeWords.j0, Bool.false_eq_true, h1, decide_eq_true h20, Bool.true_and]
      refine ⟨trivial, ?_⟩
      cases hw : ws.all word
      · simp [impl_AlikeWords.j0]
      · have h2 := pair_impl_l0 l ws ha (fun x hx => List.all_eq_true.1 hw x hx) h20 ws.length k 0 [] (by omega) (by simp; omega) (by omega)
        rw [show ((0 : Nat) : Int) = 0 from rfl] at h2
        simp [impl_AlikeWords.j0, h2]
    · have hn : (ws.length : Int) > 20 := by omega
      simp [spec_AlikeWords.j0, impl_AlikeWords.j0, h20, hn]
theorem sz_l0 (ws : List ByteArray) (hn : ws.length ≤ 4611686018427387903) (hs : ∀ x ∈ ws, x.size ≤ maxLen) : ∀ (d k i : Nat) (x : Int), i + d = ws.length → 0 ≤ x → x ≤ 1048576 → d < k →
    ∃ z : Int, laws_szStringS.l0 k ws x (i : Int) = some z ∧ (0 ≤ z → ∀ j, i ≤ j → j < ws.length → ((wat ws j).size : Int) ≤ x) := by
  intro d
  induction d with
  | zero =>
    intro k i x hi h0 h1 hk
    obtain ⟨k, rfl⟩ : ∃ q, k = q + 1 := ⟨k - 1, by omega⟩
    exact ⟨x, by rw [laws_szStringS.l0, if_neg (by omega)], fun _ j hj hj2 => by omega⟩
  | succ d ih =>
    intro k i x hi h0 h1 hk
    obtain ⟨k, rfl⟩ : ∃ q, k = q + 1 := ⟨k - 1, by omega⟩
    have hil : i < ws.length := by omega
    have hsz := hs _ (wat_mem hil)
    unfold maxLen at hsz
    have hww : wrap64 (x - ((wat ws i).size : Int)) = x - ((wat ws i).size : Int) := by unfold wrap64; omega
    rw [laws_szStringS.l0, if_pos (by omega), if_pos (by omega), rdOf_wat, hww, up (n := ws.length) hil hn]
    by_cases hneg : x - ((wat ws i).size : Int) < 0
    · rw [if_pos hneg]
      exact ⟨-1, rfl, fun h => by omega⟩
    · rw [if_neg hneg]
      obtain ⟨z, hz, hz2⟩ := ih k (i + 1) (x - ((wat ws i).size : Int)) (by omega) (by omega) (by omega) (by omega)
      refine ⟨z, hz, fun h j hj hj2 => ?_⟩
      rcases Nat.lt_or_ge i j with hij | hij
      · have := hz2 h j (by omega) hj2; omega
      · obtain rfl : i = j := by omega
        omega
theorem sz_eq (ws : List ByteArray) (hn : ws.length ≤ 8796093022207) (hs : ∀ x ∈ ws, x.size ≤ maxLen) (k : Nat) (hk : ws.length < k) :
    ∃ z : Int, laws_szStringS.f k ws 1048576 = some z ∧ (0 ≤ z → ws.length ≤ 1048576 ∧ ∀ x ∈ ws, x.size ≤ 1048576) := by
  unfold laws_szStringS.f
  have hw : wrap64 (1048576 - (ws.length : Int)) = 1048576 - (ws.length : Int) := by unfold wrap64; omega
  rw [hw]
  by_cases hneg : 1048576 - (ws.length : Int) < 0
  · rw [if_pos hneg]
    exact ⟨-1, rfl, fun h => by omega⟩
  · rw [if_neg hneg]
    obtain ⟨z, hz, hz2⟩ := sz_l0 ws (by omega) hs ws.length k 0 (1048576 - (ws.length : Int)) (by omega) (by omega) (by omega) hk
    refine ⟨z, hz, fun h => ⟨by omega, fun x hx => ?_⟩⟩
    obtain ⟨j, hj, rfl⟩ := List.getElem_of_mem hx
    have := hz2 h j (by omega) hj
    unfold wat at this
    rw [List.getD_eq_getElem?_getD, List.getElem?_eq_getElem hj] at this
    simp only [Option.getD_some] at this
    omega
theorem toStringS_l0 (l : List ByteArray) (hn : l.length ≤ 4611686018427387903) : ∀ (d k i : Nat) (m : List ByteArray), m.length = l.length → (∀ j, j < i → m[j]? = l[j]?) → i + d = l.length → d < k → laws_toStringS.l0 k l m (i : Int) = some l := by
  intro d
  induction d with
  | zero =>
    intro k i m hm h hi hk
    obtain ⟨k, rfl⟩ : ∃ q, k = q + 1 := ⟨k - 1, by omega⟩
    rw [laws_toStringS.l0, if_neg (by omega), same_list l m hm (fun j hj => h j (by omega))]
  | succ d ih =>
    intro k i m hm h hi hk
    obtain ⟨k, rfl⟩ : ∃ q, k = q + 1 := ⟨k - 1, by omega⟩
    rw [laws_toStringS.l0, if_pos (by omega), if_pos (by omega), if_pos (by omega), up (n := l.length) (by omega) hn, Int.toNat_natCast]
    exact ih k (i + 1) _ (by rw [List.length_set]; exact hm) (set_next l m ByteArray.empty hm (by omega) h) (by omega) (by omega)
theorem toStringS_eq (l : List ByteArray) (k : Nat) (hn : l.length ≤ 1048576) (hk : l.length < k) : laws_toStringS.f k l = some l := by
  unfold laws_toStringS.f
  rw [if_pos (by omega), if_pos (by omega), Int.toNat_natCast]
  exact toStringS_l0 l (by omega) l.length k 0 _ (by simp) (fun j hj => by omega) (by omega) hk
theorem eqIntSS_l0 (p : List (List Int)) (hp : p.length ≤ 4611686018427387903) (h2 : ∀ r ∈ p, r.length ≤ 2) : ∀ (d k i : Nat), i + d = p.length → d + 5 < k → laws_eqIntSS.l0 k p p (i : Int) = some true := by
  intro d
  induction d with
  | zero =>
    intro k i hi hk
    obtain ⟨k, rfl⟩ : ∃ q, k = q + 1 := ⟨k - 1, by omega⟩
    rw [laws_eqIntSS.l0, if_neg (by omega)]
  | succ d ih =>
    intro k i hi hk
    obtain ⟨k, rfl⟩ : ∃ q, k = q + 1 := ⟨k - 1, by omega⟩
    have hil : i < p.length := by omega
    have e : rd_L3 p (i : Int) = p[i] := by
      unfold rd_L3
      rw [Int.toNat_natCast, List.getD_eq_getElem?_getD, List.getElem?_eq_getElem hil]; rfl
    have h3 := h2 _ (List.getElem_mem hil)
    rw [laws_eqIntSS.l0, if_pos (by omega), if_pos (by omega), if_pos (by omega), e, eqIntS_self _ k (by omega) (by omega), Option.bind_some, if_pos rfl, up (n := p.length) hil hp]
    exact ih k (i + 1) (by omega) (by omega)
theorem eqIntSS_eq (p : List (List Int)) (k : Nat) (hp : p.length ≤ 400) (h2 : ∀ r ∈ p, r.length ≤ 2) (hk : 500 < k) : laws_eqIntSS.f k p p = some true := by
  unfold laws_eqIntSS.f
  rw [if_pos rfl]
  exact eqIntSS_l0 p (by omega) h2 p.length k 0 (by omega) (by omega)
theorem marks_l0 : ∀ (d : Nat) (p : List (List Int)) (k i : Nat) (x : Int), i + d = p.length → p.length ≤ 400 → (∀ j, i ≤ j → (p.getD j []).length ≤ 2) → 0 ≤ x → x + 2 * d ≤ 1000000 → d + 10 < k →
    ∃ (y : Int) (m : List (List Int)), laws_markIntSS.l0 k p x (i : Int) = some (y, m) ∧ m.length = p.length ∧ (∀ j, j < i → m.getD j [] = p.getD j []) ∧ x ≤ y ∧ laws_heldIntSS.l0 k m x (i : Int) = some y := by
  intro d
  induction d with
  | zero =>
    intro p k i x hi hp h2 h0 h1 hk
    obtain ⟨k, rfl⟩ : ∃ q, k = q + 1 := ⟨k - 1, by omega⟩
    exact ⟨x, p, by rw [laws_markIntSS.l0, if_neg (by omega)], rfl, fun _ _ => rfl, Int.le_refl _, by rw [laws_heldIntSS.l0, if_neg (by omega)]⟩
  | succ d ih =>
    intro p k i x hi hp h2 h0 h1 hk
    obtain ⟨k, rfl⟩ : ∃ q, k = q + 1 := ⟨k - 1, by omega⟩
    have hil : i < p.length := by omega
    have h3 := h2 i (Nat.le_refl _)
    obtain ⟨m1, e1, e2, e3⟩ := markIntS_eq (p.getD i []) k x h0 (by omega) (by omega)
    obtain ⟨y, m, f1, f2, f3, f4, f5⟩ := ih (p.set i m1) k (i + 1) (x + ((p.getD i []).length : Int)) (by rw [List.length_set]; omega) (by rw [List.length_set]; omega) (fun j hj => by
      rw [List.getD_eq_getElem?_getD, List.getElem?_set_ne (by omega), ← List.getD_eq_getElem?_getD]
      exact h2 j (by omega)) (by omega) (by omega) (by omega)
    rw [List.length_set] at f2
    have hmi : m.getD i [] = m1 := by
      rw [f3 i (by omega), List.getD_eq_getElem?_getD, List.getElem?_set_self hil]; rfl
    refine ⟨y, m, ?_, f2, fun j hj => ?_, by omega, ?_⟩
    · rw [laws_markIntSS.l0, if_pos (by omega), if_pos (by omega), Int.toNat_natCast, e1, Option.bind_some, up (n := p.length) hil (by omega)]
      exact f1
    · rw [f3 j (by omega), List.getD_eq_getElem?_getD, List.getElem?_set_ne (by omega), ← List.getD_eq_getElem?_getD]
    · have hh := heldIntS_eq m1 k x h0 (by omega) (fun j hj => e3 j (by omega)) (by omega)
      have er : rd_L3 m (i : Int) = m1 := hmi
      rw [laws_heldIntSS.l0, if_pos (by omega), if_pos (by omega), er, hh, Option.bind_some, if_neg (by omega), up (n := p.length) hil (by omega), e2]
      exact f5
theorem marks_eq (p : List (List Int)) (k : Nat) (hp : p.length ≤ 400) (h2 : ∀ r ∈ p, r.length ≤ 2) (hk : 500 < k) : ∃ (y : Int) (m : List (List Int)), laws_markIntSS.f k p 1 = some (y, m) ∧ 1 ≤ y ∧ laws_heldIntSS.f k m 1 = some y := by
  obtain ⟨y, m, f1, _, _, f4, f5⟩ := marks_l0 p.length p k 0 1 (by omega) hp (fun j _ => by
    rw [List.getD_eq_getElem?_getD]
    rcases Nat.lt_or_ge j p.length with h | h
    · rw [List.getElem?_eq_getElem h]; exact h2 _ (List.getElem_mem h)
    · rw [List.getElem?_eq_none h]; simp) (by omega) (by omega) (by omega)
  exact ⟨y, m, f1, f4, f5⟩
end Go.Proofs.Ytopmmmggjohkeaa.MFnExactAlikeWords
