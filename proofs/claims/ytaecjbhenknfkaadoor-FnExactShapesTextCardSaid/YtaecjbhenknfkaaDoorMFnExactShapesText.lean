/- The words that the plain law behind FnExactShapesText needs. -/
import Derived.Test.YtaecjbhenknfkaaDoorFAx1
import Derived.Test.YtaecjbhenknfkaaDoorFAx2
import Derived.Test.YtaecjbhenknfkaaDoorFAx3
import Derived.Test.YtaecjbhenknfkaaDoorFAx4
import Derived.Test.YtaecjbhenknfkaaDoorFAx5
import Derived.Test.YtaecjbhenknfkaaDoorFAx6 -- home: impl_ShapesText.f impl_allWithin.f impl_areShapes.f impl_within.f laws_eqIntS.f laws_toIntS.f spec_ShapesText.f spec_l1All.f spec_l1In.f spec_l1Num.f
namespace Go.Proofs.YtaecjbhenknfkaaDoor.MFnExactShapesText
open Go.RowKit Go.Proofs.YtaecjbhenknfkaaDoor.FA Go.Proofs.YtaecjbhenknfkaaDoorW.PrintWords Go.Proofs.YtaecjbhenknfkaaDoorW.PrintLast Go.Proofs.YtaecjbhenknfkaaDoorW.PrintMore
set_option linter.unusedVariables false

theorem wr {x : Int} (h0 : -4611686018427387904 ≤ x) (h1 : x ≤ 4611686018427387904) : wrap64 x = x := by unfold wrap64; omega
theorem up {i n : Nat} (h : i < n) (hn : n ≤ 4611686018427387903) : wrap64 ((i : Int) + 1) = ((i + 1 : Nat) : Int) := by rw [wr (by omega) (by omega)]; rfl
theorem rd_nat (l : List Int) (i : Nat) : rd l (i : Int) = l.getD i 0 := rfl
theorem getD_eq {α : Type} (l : List α) (i : Nat) (z : α) (h : i < l.length) : l[i]? = some (l.getD i z) := by
  rw [List.getD_eq_getElem?_getD, List.getElem?_eq_getElem h]; rfl
theorem set_next {α : Type} (l m : List α) (z : α) {i : Nat} (hl : m.length = l.length) (hi : i < l.length) (h : ∀ j, j < i → m[j]? = l[j]?) : ∀ j, j < i + 1 → (m.set i (l.getD i z))[j]? = l[j]? := by
  intro j hj
  rcases Nat.lt_or_ge j i with hji | hji
  · rw [List.getElem?_set_ne (by omega)]; exact h j hji
  · obtain rfl : j = i := by omega
    rw [List.getElem?_set_self (by omega)]; exact (getD_eq l j z hi).symm
theorem same_list {α : Type} (l m : List α) (hl : m.length = l.length) (h : ∀ j, j < l.length → m[j]? = l[j]?) : m = l := by
  apply List.ext_getElem?
  intro j
  rcases Nat.lt_or_ge j l.length with hj | hj
  · exact h j hj
  · rw [List.getElem?_eq_none (by omega), List.getElem?_eq_none (by omega)]
/-- toIntS copies. -/
theorem toIntS_l0 (l : List Int) (hn : l.length ≤ 4611686018427387903) : ∀ (d k i : Nat) (m : List Int), m.length = l.length → (∀ j, j < i → m[j]? = l[j]?) → i + d = l.length → d < k → laws_toIntS.l0 k l m (i : Int) = some l := by
  intro d
  induction d with
  | zero =>
    intro k i m hm h hi hk
    obtain ⟨k, rfl⟩ : ∃ q, k = q + 1 := ⟨k - 1, by omega⟩
    simp only [laws_toIntS.l0]
    rw [if_neg (by omega), same_list l m hm (fun j hj => h j (by omega))]
  | succ d ih =>
    intro k i m hm h hi hk
    obtain ⟨k, rfl⟩ : ∃ q, k = q + 1 := ⟨k - 1, by omega⟩
    simp only [laws_toIntS.l0]
    rw [if_pos (by omega), if_pos (by omega), if_pos (by omega), up (n := l.length) (by omega) hn, Int.toNat_natCast, rd_nat]
    exact ih k (i + 1) _ (by rw [List.length_set]; exact hm) (set_next l m 0 hm (by omega) h) (by omega) (by omega)
theorem toIntS_eq (l : List Int) (k : Nat) (hn : l.length ≤ 1048576) (hk : l.length < k) : laws_toIntS.f k l = some l := by
  unfold laws_toIntS.f
  rw [if_pos (by omega), if_pos (by omega), Int.toNat_natCast]
  exact toIntS_l0 l (by omega) l.length k 0 _ (by simp) (fun j hj => by omega) (by omega) hk
/-- eqIntS tells equal lists. -/
theorem eqIntS_l0 (l : List Int) (hn : l.length ≤ 4611686018427387903) : ∀ (d k i : Nat), i + d = l.length → d < k → laws_eqIntS.l0 k l l (i : Int) = some true := by
  intro d
  induction d with
  | zero =>
    intro k i hi hk
    obtain ⟨k, rfl⟩ : ∃ q, k = q + 1 := ⟨k - 1, by omega⟩
    simp only [laws_eqIntS.l0]
    rw [if_neg (by omega)]
  | succ d ih =>
    intro k i hi hk
    obtain ⟨k, rfl⟩ : ∃ q, k = q + 1 := ⟨k - 1, by omega⟩
    simp only [laws_eqIntS.l0]
    rw [if_pos (by omega), if_pos (by omega), if_pos (by omega), if_pos trivial, up (n := l.length) (by omega) hn]
    exact ih k (i + 1) (by omega) (by omega)
theorem eqIntS_self (l : List Int) (k : Nat) (hn : l.length ≤ 1048576) (hk : l.length < k) : laws_eqIntS.f k l l = some true := by
  unfold laws_eqIntS.f
  rw [if_pos rfl]
  exact eqIntS_l0 l (by omega) l.length k 0 (by omega) hk

theorem in_some (a b c : Int) : spec_l1In.f a b c = some (decide (b ≤ a ∧ a ≤ c)) := by
  unfold spec_l1In.f
  by_cases h : b ≤ a <;> simp [h]
theorem within_some (a b c : Int) : impl_within.f a b c = some (decide (b ≤ a ∧ a ≤ c)) := by
  unfold impl_within.f
  by_cases h : b ≤ a <;> simp [h]
/-- Something holds for the d places from i on. -/
def from_ (p : Nat → Bool) (i d : Nat) : Bool := (List.range' i d).all p
theorem from_zero (p : Nat → Bool) (i : Nat) : from_ p i 0 = true := rfl
theorem from_succ (p : Nat → Bool) (i d : Nat) : from_ p i (d + 1) = (p i && from_ p (i + 1) d) := by
  unfold from_; rw [List.range'_succ]; rfl
theorem from_iff (p : Nat → Bool) (n : Nat) : from_ p 0 n = true ↔ ∀ i, i < n → p i = true := by
  unfold from_
  rw [List.all_eq_true]
  exact ⟨fun h i hi => h i (by rw [List.mem_range']; exact ⟨i, hi, by omega⟩), fun h i hi => h i (by rw [List.mem_range'] at hi; obtain ⟨j, hj, rfl⟩ := hi; omega)⟩
theorem from_rd (p : Int → Bool) (l : List Int) : from_ (fun i => p (rd l (i : Int))) 0 l.length = l.all p := by
  rw [Bool.eq_iff_iff, from_iff, List.all_eq_true]
  constructor
  · intro h x hx
    obtain ⟨i, hi, rfl⟩ := List.getElem_of_mem hx
    have := h i hi
    rwa [rd_nat, List.getD_eq_getElem?_getD, List.getElem?_eq_getElem hi] at this
  · intro h i hi
    rw [rd_nat, List.getD_eq_getElem?_getD, List.getElem?_eq_getElem hi]
    exact h _ (List.getElem_mem hi)
theorem l1All_l0 (l : List Int) (lo hi : Int) (hn : l.length ≤ 4611686018427387903) : ∀ (d k i : Nat), i + d = l.length → d < k →
    spec_l1All.l0 k lo hi l (l.length : Int) (i : Int) = some (from_ (fun j => decide (lo ≤ rd l (j : Int) ∧ rd l (j : Int) ≤ hi)) i d) := by
  intro d
  induction d with
  | zero =>
    intro k i hi hk
    obtain ⟨k, rfl⟩ : ∃ q, k = q + 1 := ⟨k - 1, by omega⟩
    simp only [spec_l1All.l0]
    rw [if_neg (by omega), from_zero]
  | succ d ih =>
    intro k i hi hk
    obtain ⟨k, rfl⟩ : ∃ q, k = q + 1 := ⟨k - 1, by omega⟩
    simp only [spec_l1All.l0]
    rw [if_pos (by omega), if_pos (by omega), if_pos (by omega), in_some, from_succ, up (n := l.length) (by omega) hn, ih k (i + 1) (by omega) (by omega)]
    simp only [Option.bind_some]
    cases decide (lo ≤ rd l (i : Int) ∧ rd l (i : Int) ≤ _) <;> rfl
theorem l1All_eq (l : List Int) (lo hi : Int) (k : Nat) (hn : l.length ≤ 1048576) (hk : l.length < k) : spec_l1All.f k l lo hi = some (l.all fun x => decide (lo ≤ x ∧ x ≤ hi)) := by
  unfold spec_l1All.f
  rw [← from_rd]
  exact l1All_l0 l lo hi (by omega) l.length k 0 (by omega) hk
theorem allWithin_eq (l : List Int) (lo hi : Int) : impl_allWithin.f l lo hi = some (l.all fun x => decide (lo ≤ x ∧ x ≤ hi)) := by
  unfold impl_allWithin.f
  rw [List.not_any_eq_all_not]
  simp
/-- Shapes of a word. -/
def given (s : List Int) : Bool := decide (1 ≤ (s.length : Int) ∧ (s.length : Int) ≤ 8) && s.all fun x => decide (0 ≤ x ∧ x ≤ 999)
theorem given_len {s : List Int} (h : given s = true) : 1 ≤ s.length ∧ s.length ≤ 8 := by
  unfold given at h; simp only [Bool.and_eq_true, decide_eq_true_eq] at h; omega
theorem given_impl (s : List Int) : impl_areShapes.f s = some (given s) := by
  unfold impl_areShapes.f given
  rw [within_some, allWithin_eq]
  cases decide (1 ≤ (s.length : Int) ∧ (s.length : Int) ≤ 8) <;> simp
theorem num_fin : ∀ n ∈ List.range 1000, spec_l1Num.f 5 (n : Int) = some (impl_ShapesText.T (n : Int)) := by decide +kernel
theorem num_eq {x : Int} (h : 0 ≤ x ∧ x ≤ 999) (k : Nat) (hk : 5 ≤ k) : spec_l1Num.f k x = some (impl_ShapesText.T x) := by
  have h1 := num_fin x.toNat (List.mem_range.2 (by omega))
  rw [show ((x.toNat : Nat) : Int) = x from by omega] at h1
  exact at_rounds (g := fun k => spec_l1Num.f k x) (fun k => spec_l1Num.mono_l k _) hk h1
/-- The texts with a dot between them. -/
def dots (l : List ByteArray) : ByteArray := ⟨(Lib.join (l.map (·.data.toList)) [46]).toArray⟩
theorem join_snoc (xs : List (List UInt8)) (y sep : List UInt8) : Lib.join (xs ++ [y]) sep = if xs = [] then y else Lib.join xs sep ++ sep ++ y := by
  cases xs with
  | nil => rw [List.nil_append, Lib.join_one, if_pos rfl]
  | cons x r => rw [List.cons_append, Lib.join_cons, Lib.join_cons, if_neg (by simp)]; simp [Lib.joinTail]
theorem bytes_ext {a b : ByteArray} (h : a.data.toList = b.data.toList) : a = b := by
  apply ByteArray.ext
  exact Array.toList_inj.1 h
theorem dots_snoc (l : List ByteArray) (y : ByteArray) (h : l ≠ []) : dots (l ++ [y]) = (dots l ++ ⟨#[46]⟩) ++ y := by
  apply bytes_ext
  unfold dots
  rw [List.map_append, List.map_cons, List.map_nil, join_snoc, if_neg (by simpa using h)]
  simp [ByteArray.data_append]
theorem dots_size (l : List Int) (hv : ∀ x ∈ l, 0 ≤ x ∧ x ≤ 999) : (dots (l.map impl_ShapesText.T)).size ≤ 22 * l.length := impl_ShapesText.short l hv 46
theorem num_size {x : Int} (h : 0 ≤ x ∧ x ≤ 999) : (impl_ShapesText.T x).size ≤ 21 := Lib.itoa_length_le x (by omega) (by omega)
theorem given_all {s : List Int} (h : given s = true) : ∀ x ∈ s, 0 ≤ x ∧ x ≤ 999 := by
  unfold given at h
  simp only [Bool.and_eq_true, List.all_eq_true, decide_eq_true_eq] at h
  exact h.2
theorem text_l0 (l : List Int) (h : given l = true) : ∀ (d k i : Nat), i + d = l.length → d + 10 < k → spec_ShapesText.l0 k (dots ((l.take i).map impl_ShapesText.T)) l (l.length : Int) (i : Int) = some (dots (l.map impl_ShapesText.T), true) := by
  have hlen := given_len h
  have hall := given_all h
  intro d
  induction d with
  | zero =>
    intro k i hi hk
    obtain ⟨k, rfl⟩ : ∃ j, k = j + 1 := ⟨k - 1, by omega⟩
    simp only [spec_ShapesText.l0]
    rw [if_neg (by omega), List.take_of_length_le (by omega)]
  | succ d ih =>
    intro k i hi hk
    obtain ⟨k, rfl⟩ : ∃ j, k = j + 1 := ⟨k - 1, by omega⟩
    have hx : l[i]? = some (rd l (i : Int)) := getD_eq l i 0 (by omega)
    have hb := hall _ (List.mem_of_getElem? hx)
    have hs := dots_size (l.take i) (fun x hm => hall x (List.mem_of_mem_take hm))
    have hs2 := num_size hb
    have ht : (l.take i).length = i := by rw [List.length_take]; omega
    have e : (l.take (i + 1)).map impl_ShapesText.T = (l.take i).map impl_ShapesText.T ++ [impl_ShapesText.T (rd l (i : Int))] := by rw [List.take_add_one, hx, List.map_append]; rfl
    have hr := ih k (i + 1) (by omega) (by omega)
    rw [e] at hr
    simp only [spec_ShapesText.l0]
    rw [if_pos (by omega), if_pos (by omega), if_pos (by omega), num_eq hb k (by omega), up (n := l.length) (by omega) (by omega)]
    rcases Nat.eq_zero_or_pos i with h0 | h0
    · subst h0
      simp only [Option.bind_some]
      rw [if_neg (by omega), if_pos (by rw [List.take_zero]; exact Nat.le_trans (Nat.add_le_add (Nat.le_refl 0) hs2) (by decide))]
      have e2 : dots ((l.take 0).map impl_ShapesText.T) ++ impl_ShapesText.T (rd l ((0 : Nat) : Int)) = dots ((l.take 0).map impl_ShapesText.T ++ [impl_ShapesText.T (rd l ((0 : Nat) : Int))]) := by
        apply bytes_ext
        simp [dots, Lib.join_one, Lib.join_nil]
      rw [e2]
      exact hr
    · simp only [Option.bind_some]
      rw [dots_snoc _ _ (by intro hc; have h9 := congrArg List.length hc; rw [List.length_map, ht] at h9; exact absurd h9 (by simp; omega))] at hr
      rw [if_pos (by omega), if_pos (by omega), if_pos (by rw [ByteArray.size_append, show (⟨#[46]⟩ : ByteArray).size = 1 from rfl]; omega)]
      exact hr
/-- What both return. -/
def text (l : List Int) : ByteArray × Bool := if given l = true then (dots (l.map impl_ShapesText.T), true) else (⟨#[]⟩, false)
theorem text_eq (l : List Int) (k : Nat) (hl : l.length ≤ 1048576) (hk : l.length + 50 < k) : spec_ShapesText.f k l = some (text l) ∧ impl_ShapesText.f l = some (text l) := by
  obtain ⟨k, rfl⟩ : ∃ j, k = j + 1 := ⟨k - 1, by omega⟩
  constructor
  · unfold spec_ShapesText.f
    rw [in_some, l1All_eq l 0 999 (k + 1) hl (by omega)]
    have eg : given l = (decide (1 ≤ (l.length : Int) ∧ (l.length : Int) ≤ 8) && l.all fun x => decide (0 ≤ x ∧ x ≤ 999)) := rfl
    unfold text
    cases h1 : decide (1 ≤ (l.length : Int) ∧ (l.length : Int) ≤ 8) with
    | false =>
      rw [h1] at eg
      simp [eg, spec_ShapesText.j0]
    | true =>
      cases h2 : l.all fun x => decide (0 ≤ x ∧ x ≤ 999) with
      | false =>
        rw [h1, h2] at eg
        simp [eg, spec_ShapesText.j0]
      | true =>
        rw [h1, h2] at eg
        have hg : given l = true := eg
        have ht := text_l0 l hg l.length k 0 (by omega) (by omega)
        simp only [Option.bind_some, if_true, Bool.not_true, spec_ShapesText.j0, Bool.false_eq_true, if_false, hg]
        exact ht
  · unfold impl_ShapesText.f text
    rw [given_impl]
    cases hg : given l with
    | false => simp
    | true =>
      have h1 := given_len hg
      have h2 := given_all hg
      simp only [Option.bind_some, if_true]
      rw [if_pos ⟨h1.1, h1.2, h2⟩]
      rfl
end Go.Proofs.YtaecjbhenknfkaaDoor.MFnExactShapesText
