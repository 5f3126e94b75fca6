/- The words that the plain law behind FnExactShapeWay needs. -/
import Derived.Test.YtaecjbhenknfkaaFBx3
import Derived.Test.YtaecjbhenknfkaaFBx4
import Derived.Test.YtaecjbhenknfkaaFBx5
import Derived.Test.YtaecjbhenknfkaaFBx6
import Derived.Test.YtaecjbhenknfkaaFBx7
import Derived.Test.YtaecjbhenknfkaaFBx8
import Derived.Test.YtaecjbhenknfkaaFBx9
import Derived.Test.YtaecjbhenknfkaaFBx10
import Derived.Test.YtaecjbhenknfkaaFBx11
import Derived.Test.YtaecjbhenknfkaaFBx12
import Derived.Test.YtaecjbhenknfkaaFBx13
import Derived.Test.YtaecjbhenknfkaaFBx14
import Derived.Test.YtaecjbhenknfkaaFBx15
import Derived.Test.YtaecjbhenknfkaaFBx16
import Derived.Test.YtaecjbhenknfkaaFBx17 -- home: cmp_Compare_int.f cmp_isNaN_int.f impl_IsShape.f impl_ShapeWay.f impl_Shape_bends.f impl_Shape_maySpread.f impl_Shape_with.f impl_allWithin.f laws_eqShape.f laws_eqShapeS.f laws_heldShapeS.f laws_markShapeS.f spec_ShapeWay.f spec_l1All.f spec_l1In.f spec_l1Sign.f spec_shFingers.f spec_shGood.f spec_shMade.f spec_shSet.f spec_shWide.f
namespace Go.Proofs.Ytaecjbhenknfkaa.MFnExactShapeWay
open Go.RowKit Go.Proofs.Ytaecjbhenknfkaa.FB Go.Proofs.YtaecjbhenknfkaaW.PrintWords Go.Proofs.YtaecjbhenknfkaaW.PrintLast Go.Proofs.YtaecjbhenknfkaaW.PrintMore
set_option linter.unusedVariables false

theorem wr {x : Int} (h0 : -4611686018427387904 ≤ x) (h1 : x ≤ 4611686018427387904) : wrap64 x = x := by unfold wrap64; omega
theorem up {i n : Nat} (h : i < n) (hn : n ≤ 4611686018427387903) : wrap64 ((i : Int) + 1) = ((i + 1 : Nat) : Int) := by rw [wr (by omega) (by omega)]; rfl
theorem rd_nat (l : List Int) (i : Nat) : rd l (i : Int) = l.getD i 0 := rfl

theorem in_some (a b c : Int) : spec_l1In.f a b c = some (decide (b ≤ a ∧ a ≤ c)) := by
  unfold spec_l1In.f
  by_cases h : b ≤ a <;> simp [h]
/-- Something holds for the d places from i on. -/
def from_ (p : Nat → Bool) (i d : Nat) : Bool := (List.range' i d).all p
theorem from_zero (p : Nat → Bool) (i : Nat) : from_ p i 0 = true := rfl
theorem from_succ (p : Nat → Bool) (i d : Nat) : from_ p i (d + 1) = (p i && from_ p (i + 1) d) := by
  unfold from_; rw [List.range'_succ]; rfl
theorem from_iff (p : Nat → Bool) (n : Nat) : from_ p 0 n = true ↔ ∀ i, i < n → p i = true := by
  unfold from_
  rw [List.all_eq_true]
  exact ⟨fun h i hi => h i (by rw [List.mem_range']; exact ⟨i, hi, by omega⟩), fun h i hi => h i (by rw [List.mem_range'] at hi; obtain ⟨j, hj, rfl⟩ := hi; omega)⟩
theorem from_rd (p : Int → Bool) (l : List Int) : from_ (fun i => p (rd l (i : Int))) 0 l.length = l.all p := by
  rw [Bool.eq_iff_iff, from_iff, List.all_eq_true]
  constructor
  · intro h x hx
    obtain ⟨i, hi, rfl⟩ := List.getElem_of_mem hx
    have := h i hi
    rwa [rd_nat, List.getD_eq_getElem?_getD, List.getElem?_eq_getElem hi] at this
  · intro h i hi
    rw [rd_nat, List.getD_eq_getElem?_getD, List.getElem?_eq_getElem hi]
    exact h _ (List.getElem_mem hi)
theorem l1All_l0 (l : List Int) (lo hi : Int) (hn : l.length ≤ 4611686018427387903) : ∀ (d k i : Nat), i + d = l.length → d < k →
    spec_l1All.l0 k lo hi l (l.length : Int) (i : Int) = some (from_ (fun j => decide (lo ≤ rd l (j : Int) ∧ rd l (j : Int) ≤ hi)) i d) := by
  intro d
  induction d with
  | zero =>
    intro k i hi hk
    obtain ⟨k, rfl⟩ : ∃ q, k = q + 1 := ⟨k - 1, by omega⟩
    simp only [spec_l1All.l0]
    rw [if_neg (by omega), from_zero]
  | succ d ih =>
    intro k i hi hk
    obtain ⟨k, rfl⟩ : ∃ q, k = q + 1 := ⟨k - 1, by omega⟩
    simp only [spec_l1All.l0]
    rw [if_pos (by omega), if_pos (by omega), if_pos (by omega), in_some, from_succ, up (n := l.length) (by omega) hn, ih k (i + 1) (by omega) (by omega)]
    simp only [Option.bind_some]
    cases decide (lo ≤ rd l (i : Int) ∧ rd l (i : Int) ≤ _) <;> rfl
theorem l1All_eq (l : List Int) (lo hi : Int) (k : Nat) (hn : l.length ≤ 1048576) (hk : l.length < k) : spec_l1All.f k l lo hi = some (l.all fun x => decide (lo ≤ x ∧ x ≤ hi)) := by
  unfold spec_l1All.f
  rw [← from_rd]
  exact l1All_l0 l lo hi (by omega) l.length k 0 (by omega) hk
theorem allWithin_eq (l : List Int) (lo hi : Int) : impl_allWithin.f l lo hi = some (l.all fun x => decide (lo ≤ x ∧ x ≤ hi)) := by
  unfold impl_allWithin.f
  rw [List.not_any_eq_all_not]
  simp
/-- May these fingers be spread? -/
def wide (a b c d : Int) : Bool := (decide (a = 0) && decide (b = 0)) || ((decide (b = 0) && decide (c = 0)) || (decide (c = 0) && decide (d = 0)))
theorem wide_spec (t a b c d : Int) (s : Bool) (k : Nat) (hk : 5 < k) : spec_shWide.f k t a b c d s = some (wide a b c d) := by
  refine at_rounds (g := fun k => spec_shWide.f k t a b c d s) (fun k => spec_shWide.mono _ _ _ _ _ _ k) (k := 6) (by omega) ?_
  unfold spec_shWide.f spec_shFingers.f wide
  simp only [Option.bind_some]
  have w0 : wrap64 0 = 0 := wr (by decide) (by decide)
  have w1 : wrap64 1 = 1 := wr (by decide) (by decide)
  have w2 : wrap64 2 = 2 := wr (by decide) (by decide)
  have w3 : wrap64 3 = 3 := wr (by decide) (by decide)
  have w4 : wrap64 4 = 4 := wr (by decide) (by decide)
  have r0 : ∀ x y z u : Int, rd [x, y, z, u] 0 = x := fun _ _ _ _ => rfl
  have r1 : ∀ x y z u : Int, rd [x, y, z, u] 1 = y := fun _ _ _ _ => rfl
  have r2 : ∀ x y z u : Int, rd [x, y, z, u] 2 = z := fun _ _ _ _ => rfl
  have r3 : ∀ x y z u : Int, rd [x, y, z, u] 3 = u := fun _ _ _ _ => rfl
  by_cases ha : a = 0 <;> by_cases hb : b = 0 <;> by_cases hc : c = 0 <;> by_cases hd : d = 0 <;> simp [spec_shWide.l0, w0, w1, w2, w3, w4, r0, r1, r2, r3, ha, hb, hc, hd]
theorem wide_impl (t a b c d : Int) (s : Bool) : impl_Shape_maySpread.f t a b c d s = some (wide a b c d) := by
  unfold impl_Shape_maySpread.f wide
  by_cases ha : a = 0 <;> by_cases hb : b = 0 <;> by_cases hc : c = 0 <;> by_cases hd : d = 0 <;> simp [ha, hb, hc, hd]
/-- Is this a shape? -/
def hshape (t a b c d : Int) (s : Bool) : Bool := decide (0 ≤ t ∧ t ≤ 2) && (([a, b, c, d].all fun x => decide (0 ≤ x ∧ x ≤ 2)) && (!s || wide a b c d))
theorem hshape_spec (t a b c d : Int) (s : Bool) (k : Nat) (hk : 5 < k) : spec_shGood.f k t a b c d s = some (hshape t a b c d s) := by
  unfold spec_shGood.f hshape
  rw [in_some]
  simp only [Option.bind_some, spec_shFingers.f]
  rw [l1All_eq [a, b, c, d] 0 2 k (by simp) (by simp; omega), wide_spec t a b c d s k hk]
  simp only [Option.bind_some]
  generalize ([a, b, c, d].all fun x => decide (0 ≤ x ∧ x ≤ 2)) = q
  cases decide (0 ≤ t ∧ t ≤ 2) <;> cases q <;> cases s <;> simp
theorem hshape_impl (t a b c d : Int) (s : Bool) : impl_IsShape.f t a b c d s = some (hshape t a b c d s) := by
  unfold impl_IsShape.f hshape impl_Shape_bends.f
  simp only [Option.bind_some]
  rw [if_pos (by simp), allWithin_eq, wide_impl]
  simp only [Option.bind_some, List.cons_append, List.nil_append, List.all_cons (a := t)]
  generalize ([a, b, c, d].all fun x => decide (0 ≤ x ∧ x ≤ 2)) = q
  cases decide (0 ≤ t ∧ t ≤ 2) <;> cases q <;> cases s <;> simp
theorem w64_0 : wrap64 0 = 0 := wr (by decide) (by decide)
theorem w64_1 : wrap64 1 = 1 := wr (by decide) (by decide)
theorem w64_2 : wrap64 2 = 2 := wr (by decide) (by decide)
theorem w64_3 : wrap64 3 = 3 := wr (by decide) (by decide)
theorem w64_4 : wrap64 4 = 4 := wr (by decide) (by decide)
theorem rd4_0 (x y z u : Int) : rd [x, y, z, u] 0 = x := rfl
theorem rd4_1 (x y z u : Int) : rd [x, y, z, u] 1 = y := rfl
theorem rd4_2 (x y z u : Int) : rd [x, y, z, u] 2 = z := rfl
theorem rd4_3 (x y z u : Int) : rd [x, y, z, u] 3 = u := rfl
theorem hshape_iff {t a b c d : Int} {s : Bool} : hshape t a b c d s = true ↔ (0 ≤ t ∧ t ≤ 2) ∧ (0 ≤ a ∧ a ≤ 2) ∧ (0 ≤ b ∧ b ≤ 2) ∧ (0 ≤ c ∧ c ≤ 2) ∧ (0 ≤ d ∧ d ≤ 2) ∧ (s = true → wide a b c d = true) := by
  unfold hshape
  cases s <;> simp [and_assoc]
theorem made (k : Nat) (hk : 5 < k) (t a b c d : Int) (s : Bool) : spec_shMade.f k t [a, b, c, d] s = some (t, a, b, c, d, s && wide a b c d) := by
  unfold spec_shMade.f
  rw [if_pos (by simp), if_pos (by simp), if_pos (by simp), if_pos (by simp), rd4_0, rd4_1, rd4_2, rd4_3, wide_spec _ _ _ _ _ _ _ hk]
  cases s <;> simp
theorem with1 (t a b c d : Int) (s : Bool) (v : Int) : impl_Shape_with.f t a b c d s 1 v = some (t, v, b, c, d, s && wide v b c d) := by
  unfold impl_Shape_with.f
  rw [if_neg (by decide), if_pos rfl, wide_impl]
  cases s <;> simp
theorem with2 (t a b c d : Int) (s : Bool) (v : Int) : impl_Shape_with.f t a b c d s 2 v = some (t, a, v, c, d, s && wide a v c d) := by
  unfold impl_Shape_with.f
  rw [if_neg (by decide), if_neg (by decide), if_pos rfl, wide_impl]
  cases s <;> simp
theorem with3 (t a b c d : Int) (s : Bool) (v : Int) : impl_Shape_with.f t a b c d s 3 v = some (t, a, b, v, d, s && wide a b v d) := by
  unfold impl_Shape_with.f
  rw [if_neg (by decide), if_neg (by decide), if_neg (by decide), if_pos rfl, wide_impl]
  cases s <;> simp
theorem with4 (t a b c d : Int) (s : Bool) (v : Int) : impl_Shape_with.f t a b c d s 4 v = some (t, a, b, c, v, s && wide a b c v) := by
  unfold impl_Shape_with.f
  rw [if_neg (by decide), if_neg (by decide), if_neg (by decide), if_neg (by decide), wide_impl]
  cases s <;> simp
theorem set0 (k : Nat) (hk : 5 < k) (t a b c d : Int) (s : Bool) (v : Int) : spec_shSet.f k t a b c d s 0 v = some (v, a, b, c, d, s && wide a b c d) := by
  unfold spec_shSet.f spec_shFingers.f
  rw [if_pos rfl, Option.bind_some, made k hk]
  rfl
theorem set1 (k : Nat) (hk : 5 < k) (t a b c d : Int) (s : Bool) (v : Int) : spec_shSet.f k t a b c d s 1 v = some (t, v, b, c, d, s && wide v b c d) := by
  unfold spec_shSet.f spec_shFingers.f
  rw [if_neg (by decide), Option.bind_some, show (1 : Int) - 1 = 0 from rfl, w64_0, if_pos (by decide), if_pos (by simp), show ([a, b, c, d].set (0 : Int).toNat v) = [v, b, c, d] from rfl, made k hk]
  rfl
theorem set2 (k : Nat) (hk : 5 < k) (t a b c d : Int) (s : Bool) (v : Int) : spec_shSet.f k t a b c d s 2 v = some (t, a, v, c, d, s && wide a v c d) := by
  unfold spec_shSet.f spec_shFingers.f
  rw [if_neg (by decide), Option.bind_some, show (2 : Int) - 1 = 1 from rfl, w64_1, if_pos (by decide), if_pos (by simp), show ([a, b, c, d].set (1 : Int).toNat v) = [a, v, c, d] from rfl, made k hk]
  rfl
theorem set3 (k : Nat) (hk : 5 < k) (t a b c d : Int) (s : Bool) (v : Int) : spec_shSet.f k t a b c d s 3 v = some (t, a, b, v, d, s && wide a b v d) := by
  unfold spec_shSet.f spec_shFingers.f
  rw [if_neg (by decide), Option.bind_some, show (3 : Int) - 1 = 2 from rfl, w64_2, if_pos (by decide), if_pos (by simp), show ([a, b, c, d].set (2 : Int).toNat v) = [a, b, v, d] from rfl, made k hk]
  rfl
theorem set4 (k : Nat) (hk : 5 < k) (t a b c d : Int) (s : Bool) (v : Int) : spec_shSet.f k t a b c d s 4 v = some (t, a, b, c, v, s && wide a b c v) := by
  unfold spec_shSet.f spec_shFingers.f
  rw [if_neg (by decide), Option.bind_some, show (4 : Int) - 1 = 3 from rfl, w64_3, if_pos (by decide), if_pos (by simp), show ([a, b, c, d].set (3 : Int).toNat v) = [a, b, c, v] from rfl, made k hk]
  rfl
theorem eq_shape (t a b c d : Int) (s : Bool) : laws_eqShape.f t a b c d s t a b c d s = some true := by
  unfold laws_eqShape.f
  simp
theorem wq {x : Int} (h0 : -4611686018427387904 ≤ x) (h1 : x ≤ 4611686018427387904) : wrap64 x = x := by unfold wrap64; omega
theorem rdA (pre : List S25) (x : S25) (rest : List S25) : rd_T25 (pre ++ x :: rest) (pre.length : Int) = x := by
  unfold rd_T25; simp
theorem setA (pre : List S25) (x v : S25) (rest : List S25) : (pre ++ x :: rest).set (pre.length : Int).toNat v = pre ++ v :: rest := by
  simp
theorem stepA (pre : List S25) (v : S25) (h : pre.length ≤ 4611686018427387903) : wrap64 ((pre.length : Int) + 1) = ((pre ++ [v]).length : Int) := by
  rw [wq (by omega) (by omega)]; simp
/-- The marks, from one number on. -/
def marks : Int → List S25 → List S25
  | _, [] => []
  | c, _ :: xs => ⟨c, c + 1, c + 1 + 1, c + 1 + 1 + 1, c + 1 + 1 + 1 + 1, (Int.tmod (c + 1 + 1 + 1 + 1 + 1) 3 == 0)⟩ :: marks (c + 1 + 1 + 1 + 1 + 1 + 1) xs
theorem mark_l0 : ∀ (rest pre : List S25) (k : Nat) (c : Int), 0 ≤ c → c + 6 * rest.length ≤ 2199023255552 → pre.length + rest.length ≤ 2199023255552 → rest.length < k →
    laws_markShapeS.l0 k (pre ++ rest) c (pre.length : Int) = some (c + 6 * rest.length, pre ++ marks c rest) := by
  intro rest
  induction rest with
  | nil =>
    intro pre k c h0 h1 h2 hk
    obtain ⟨k, rfl⟩ : ∃ q, k = q + 1 := ⟨k - 1, by omega⟩
    simp only [laws_markShapeS.l0, List.append_nil]
    rw [if_neg (by omega)]; simp [marks]
  | cons x xs ih =>
    intro pre k c h0 h1 h2 hk
    obtain ⟨k, rfl⟩ : ∃ q, k = q + 1 := ⟨k - 1, by omega⟩
    rw [List.length_cons] at h1 h2 hk
    simp only [laws_markShapeS.l0]
    rw [if_pos (by simp; omega), if_pos (by omega)]
    simp only [Option.bind_some, rdA, setA]
    rw [wq (x := c + 1) (by omega) (by omega), wq (x := c + 1 + 1) (by omega) (by omega), wq (x := c + 1 + 1 + 1) (by omega) (by omega), wq (x := c + 1 + 1 + 1 + 1) (by omega) (by omega), wq (x := c + 1 + 1 + 1 + 1 + 1) (by omega) (by omega), wq (x := c + 1 + 1 + 1 + 1 + 1 + 1) (by omega) (by omega)]
    rw [stepA pre (⟨c, c + 1, c + 1 + 1, c + 1 + 1 + 1, c + 1 + 1 + 1 + 1, (Int.tmod (c + 1 + 1 + 1 + 1 + 1) 3 == 0)⟩ : S25) (by omega), List.append_cons, ih _ k _ (by omega) (by omega) (by rw [List.length_append]; simp; omega) (by omega)]
    simp only [marks, List.append_assoc, List.singleton_append, List.length_cons]
    congr 2; omega
theorem held_l0 : ∀ (rest pre : List S25) (k : Nat) (c : Int), 0 ≤ c → c + 6 * rest.length ≤ 2199023255552 → pre.length + rest.length ≤ 2199023255552 → rest.length < k →
    laws_heldShapeS.l0 k (pre ++ marks c rest) c (pre.length : Int) = some (c + 6 * rest.length) := by
  intro rest
  induction rest with
  | nil =>
    intro pre k c h0 h1 h2 hk
    obtain ⟨k, rfl⟩ : ∃ q, k = q + 1 := ⟨k - 1, by omega⟩
    simp only [laws_heldShapeS.l0, marks, List.append_nil]
    rw [if_neg (by omega)]; simp
  | cons x xs ih =>
    intro pre k c h0 h1 h2 hk
    obtain ⟨k, rfl⟩ : ∃ q, k = q + 1 := ⟨k - 1, by omega⟩
    rw [List.length_cons] at h1 h2 hk
    rw [show marks c (x :: xs) = (⟨c, c + 1, c + 1 + 1, c + 1 + 1 + 1, c + 1 + 1 + 1 + 1, (Int.tmod (c + 1 + 1 + 1 + 1 + 1) 3 == 0)⟩ : S25) :: marks (c + 1 + 1 + 1 + 1 + 1 + 1) xs from rfl]
    simp only [laws_heldShapeS.l0]
    rw [if_pos (by simp; omega), if_pos (by omega)]
    simp only [rdA]
    rw [wq (x := c + 1) (by omega) (by omega), wq (x := c + 1 + 1) (by omega) (by omega), wq (x := c + 1 + 1 + 1) (by omega) (by omega), wq (x := c + 1 + 1 + 1 + 1) (by omega) (by omega), wq (x := c + 1 + 1 + 1 + 1 + 1) (by omega) (by omega), wq (x := c + 1 + 1 + 1 + 1 + 1 + 1) (by omega) (by omega)]
    simp only [if_true, bne_self_eq_false, Bool.false_eq_true, if_false]
    rw [stepA pre (⟨c, c + 1, c + 1 + 1, c + 1 + 1 + 1, c + 1 + 1 + 1 + 1, (Int.tmod (c + 1 + 1 + 1 + 1 + 1) 3 == 0)⟩ : S25) (by omega), List.append_cons, ih _ k _ (by omega) (by omega) (by rw [List.length_append]; simp; omega) (by omega)]
    congr 1; rw [List.length_cons]; omega
/-- Marks are laid one behind the other, and are found again. -/
theorem mark_eq (l : List S25) (k : Nat) (hn : l.length ≤ 1048576) (hk : l.length < k) : laws_markShapeS.f k l 1 = some (1 + 6 * (l.length : Int), marks 1 l) := by
  have h := mark_l0 l [] k 1 (by omega) (by omega) (by simp; omega) hk
  unfold laws_markShapeS.f
  simpa using h
theorem held_eq (l : List S25) (k : Nat) (hn : l.length ≤ 1048576) (hk : l.length < k) : laws_heldShapeS.f k (marks 1 l) 1 = some (1 + 6 * (l.length : Int)) := by
  have h := held_l0 l [] k 1 (by omega) (by omega) (by simp; omega) hk
  unfold laws_heldShapeS.f
  simpa using h
theorem eqS_l0 (l : List S25) (hn : l.length ≤ 4611686018427387903) : ∀ (d k i : Nat), i + d = l.length → d < k → laws_eqShapeS.l0 k l l (i : Int) = some true := by
  intro d
  induction d with
  | zero =>
    intro k i hi hk
    obtain ⟨k, rfl⟩ : ∃ q, k = q + 1 := ⟨k - 1, by omega⟩
    simp only [laws_eqShapeS.l0]
    rw [if_neg (by omega)]
  | succ d ih =>
    intro k i hi hk
    obtain ⟨k, rfl⟩ : ∃ q, k = q + 1 := ⟨k - 1, by omega⟩
    simp only [laws_eqShapeS.l0]
    rw [if_pos (by omega), if_pos (by omega), if_pos (by omega), eq_shape, show wrap64 ((i : Int) + 1) = ((i + 1 : Nat) : Int) from by rw [wq (by omega) (by omega)]; rfl]
    exact ih k (i + 1) (by omega) (by omega)
theorem eqS_self (l : List S25) (k : Nat) (hn : l.length ≤ 1048576) (hk : l.length < k) : laws_eqShapeS.f k l l = some true := by
  unfold laws_eqShapeS.f
  rw [if_pos rfl]
  exact eqS_l0 l (by omega) l.length k 0 (by omega) hk
/-- From a finger on, both walks go the same way. -/
def Both (t2 a2 b2 c2 d2 : Int) (s2 : Bool) (K : Nat) (i : Int) (n : Nat) : Prop := ∀ (k : Nat) (x6 : List S25) (t a b c d : Int) (s : Bool), K ≤ k → hshape t a b c d s = true → x6.length ≤ n →
    ∃ l : List S25, l.length ≤ 40 ∧ spec_ShapeWay.l0 k x6 [a2, b2, c2, d2] 4 i t2 a2 b2 c2 d2 s2 t a b c d s = some (l, true) ∧ impl_ShapeWay.l0 k x6 [a2, b2, c2, d2] 4 i t2 a2 b2 c2 d2 s2 t a b c d s = some (l, true)
theorem way_end (t2 a2 b2 c2 d2 : Int) (s2 : Bool) : Both t2 a2 b2 c2 d2 s2 10 4 30 := by
  intro k x6 t a b c d s hk hg hx
  obtain ⟨k, rfl⟩ : ∃ q, k = q + 1 := ⟨k - 1, by omega⟩
  obtain ⟨-, -, -, -, -, hs⟩ := hshape_iff.1 hg
  have hsw : (s && wide a b c d) = s := by cases s; rfl; rw [hs rfl]; rfl
  have hlen : x6.length < 2932031007402 := by omega
  rw [spec_ShapeWay.l0, impl_ShapeWay.l0, if_neg (show ¬ ((4 : Int) < 4) by decide), if_neg (show ¬ ((4 : Int) < 4) by decide)]
  by_cases ht : t = t2
  · rw [if_pos ht, if_pos ht, if_pos hlen]
    split
    · exact ⟨_, by simp; omega, rfl, rfl⟩
    · exact ⟨_, by omega, rfl, rfl⟩
  · rw [if_neg ht, if_neg ht, if_pos hlen, set0 k (by omega), hsw]
    have hlen2 : (x6 ++ [(⟨t2, a, b, c, d, s⟩ : S25)]).length < 2932031007402 := by simp; omega
    simp only [Option.bind_some, beq_self_eq_true, Bool.not_true, Bool.false_or, if_pos hlen, if_pos hlen2]
    split
    · exact ⟨_, by simp; omega, rfl, rfl⟩
    · exact ⟨_, by simp; omega, rfl, rfl⟩
theorem step_sign {v w : Int} (hne : ¬ (v = w)) (hv : 0 ≤ v ∧ v ≤ 2) (hw : 0 ≤ w ∧ w ≤ 2) : ∃ e, spec_l1Sign.f (wrap64 (w - v)) = some e ∧ cmp_Compare_int.f w v = some e ∧ (w - (v + e)).natAbs + 1 = (w - v).natAbs ∧ 0 ≤ v + e ∧ v + e ≤ 2 := by
  unfold spec_l1Sign.f cmp_Compare_int.f cmp_isNaN_int.f
  rw [wr (by omega) (by omega)]
  simp only [Option.bind_some, bne_self_eq_false, Bool.false_eq_true, if_false]
  rcases Int.lt_or_gt_of_ne hne with h | h
  · refine ⟨1, ?_, ?_, by omega, by omega, by omega⟩
    · rw [if_pos (by omega)]
    · rw [if_neg (by omega), if_pos (by omega)]
  · refine ⟨-1, ?_, ?_, by omega, by omega, by omega⟩
    · rw [if_neg (by omega), if_pos (by omega)]
    · rw [if_pos (by omega)]
theorem len4 (a b c d : Int) : (([a, b, c, d] : List Int).length : Int) = 4 := rfl
theorem way_l1_0 {t2 a2 b2 c2 d2 : Int} {s2 : Bool} {K n : Nat} (hC : Both t2 a2 b2 c2 d2 s2 K 1 (n + 2)) (hn : n ≤ 40) (hK : 6 ≤ K) (w : Int) (hw : 0 ≤ w ∧ w ≤ 2) : ∀ (m : Nat), m ≤ 2 → ∀ (k : Nat) (x6 : List S25) (t a b c d : Int) (s : Bool), K + m + 1 ≤ k → hshape t a b c d s = true → x6.length + m ≤ n + 2 → (w - a).natAbs = m →
    ∃ l : List S25, l.length ≤ 40 ∧ spec_ShapeWay.l1 k x6 0 w [a2, b2, c2, d2] 4 0 t2 a2 b2 c2 d2 s2 t a b c d s = some (l, true) ∧ impl_ShapeWay.l1 k x6 0 w [a2, b2, c2, d2] 4 0 t2 a2 b2 c2 d2 s2 t a b c d s = some (l, true) := by
  intro m
  induction m with
  | zero =>
    intro _ k x6 t a b c d s hk hg hx hv
    obtain ⟨k, rfl⟩ : ∃ q, k = q + 1 := ⟨k - 1, by omega⟩
    have heq : a = w := by omega
    obtain ⟨l, hl, h1, h2⟩ := hC k x6 t a b c d s (by omega) hg (by omega)
    refine ⟨l, hl, ?_, ?_⟩
    · rw [spec_ShapeWay.l1, spec_shFingers.f, Option.bind_some, len4, if_pos (by decide), if_pos (by decide), rd4_0, if_pos heq, show (0 : Int) + 1 = 1 from rfl, w64_1]
      exact h1
    · rw [impl_ShapeWay.l1, impl_Shape_bends.f, Option.bind_some, len4, if_pos (by decide), if_pos (by decide), rd4_0, if_pos heq, show (0 : Int) + 1 = 1 from rfl, w64_1]
      exact h2
  | succ m ih =>
    intro hm k x6 t a b c d s hk hg hx hv
    obtain ⟨k, rfl⟩ : ∃ q, k = q + 1 := ⟨k - 1, by omega⟩
    have hne : ¬ (a = w) := by omega
    obtain ⟨ht, ha, hb, hc, hd, hs⟩ := hshape_iff.1 hg
    have hlen : x6.length < 2932031007402 := by omega
    obtain ⟨e, he1, he2, he3, he4, he5⟩ := step_sign hne ha hw
    have hg' : hshape t (a + e) b c d (s && wide (a + e) b c d) = true := hshape_iff.2 ⟨ht, ⟨by omega, by omega⟩, hb, hc, hd, fun z => by simp at z; exact z.2⟩
    have ew : wrap64 (a + e) = a + e := wr (by omega) (by omega)
    obtain ⟨l, hl, h1, h2⟩ := ih (by omega) k (x6 ++ [(⟨t, a + e, b, c, d, (s && wide (a + e) b c d)⟩ : S25)]) t (a + e) b c d (s && wide (a + e) b c d) (by omega) hg' (by simp; omega) (by omega)
    refine ⟨l, hl, ?_, ?_⟩
    · rw [spec_ShapeWay.l1, spec_shFingers.f, Option.bind_some, len4, if_pos (by decide), if_pos (by decide), rd4_0, if_neg hne, Option.bind_some, len4, if_pos (by decide), Option.bind_some, len4, if_pos (by decide), rd4_0, he1, Option.bind_some, ew, show (0 : Int) + 1 = 1 from rfl, w64_1, set1 k (by omega), Option.bind_some, if_pos hlen]
      exact h1
    · rw [impl_ShapeWay.l1, impl_Shape_bends.f, Option.bind_some, len4, if_pos (by decide), if_pos (by decide), rd4_0, if_neg hne, Option.bind_some, len4, if_pos (by decide), Option.bind_some, len4, if_pos (by decide), rd4_0, he2, Option.bind_some, ew, show (0 : Int) + 1 = 1 from rfl, w64_1, with1, Option.bind_some, if_pos hlen]
      exact h2
theorem way_at_0 {t2 a2 b2 c2 d2 : Int} {s2 : Bool} {K n : Nat} (hC : Both t2 a2 b2 c2 d2 s2 K 1 (n + 2)) (hn : n ≤ 38) (hK : 6 ≤ K) (hw : 0 ≤ a2 ∧ a2 ≤ 2) : Both t2 a2 b2 c2 d2 s2 (K + 4) 0 n := by
  intro k x6 t a b c d s hk hg hx
  obtain ⟨k, rfl⟩ : ∃ q, k = q + 1 := ⟨k - 1, by omega⟩
  obtain ⟨ht, ha, hb, hc, hd, hs⟩ := hshape_iff.1 hg
  rw [spec_ShapeWay.l0, impl_ShapeWay.l0, len4, if_pos (by decide), if_pos (by decide), if_pos (by decide), if_pos (by decide), if_pos (by decide), if_pos (by decide), rd4_0]
  exact way_l1_0 hC (by omega) hK a2 hw (a2 - a).natAbs (by omega) k x6 t a b c d s (by omega) hg (by omega) rfl
theorem way_l1_1 {t2 a2 b2 c2 d2 : Int} {s2 : Bool} {K n : Nat} (hC : Both t2 a2 b2 c2 d2 s2 K 2 (n + 2)) (hn : n ≤ 40) (hK : 6 ≤ K) (w : Int) (hw : 0 ≤ w ∧ w ≤ 2) : ∀ (m : Nat), m ≤ 2 → ∀ (k : Nat) (x6 : List S25) (t a b c d : Int) (s : Bool), K + m + 1 ≤ k → hshape t a b c d s = true → x6.length + m ≤ n + 2 → (w - b).natAbs = m →
    ∃ l : List S25, l.length ≤ 40 ∧ spec_ShapeWay.l1 k x6 1 w [a2, b2, c2, d2] 4 1 t2 a2 b2 c2 d2 s2 t a b c d s = some (l, true) ∧ impl_ShapeWay.l1 k x6 1 w [a2, b2, c2, d2] 4 1 t2 a2 b2 c2 d2 s2 t a b c d s = some (l, true) := by
  intro m
  induction m with
  | zero =>
    intro _ k x6 t a b c d s hk hg hx hv
    obtain ⟨k, rfl⟩ : ∃ q, k = q + 1 := ⟨k - 1, by omega⟩
    have heq : b = w := by omega
    obtain ⟨l, hl, h1, h2⟩ := hC k x6 t a b c d s (by omega) hg (by omega)
    refine ⟨l, hl, ?_, ?_⟩
    · rw [spec_ShapeWay.l1, spec_shFingers.f, Option.bind_some, len4, if_pos (by decide), if_pos (by decide), rd4_1, if_pos heq, show (1 : Int) + 1 = 2 from rfl, w64_2]
      exact h1
    · rw [impl_ShapeWay.l1, impl_Shape_bends.f, Option.bind_some, len4, if_pos (by decide), if_pos (by decide), rd4_1, if_pos heq, show (1 : Int) + 1 = 2 from rfl, w64_2]
      exact h2
  | succ m ih =>
    intro hm k x6 t a b c d s hk hg hx hv
    obtain ⟨k, rfl⟩ : ∃ q, k = q + 1 := ⟨k - 1, by omega⟩
    have hne : ¬ (b = w) := by omega
    obtain ⟨ht, ha, hb, hc, hd, hs⟩ := hshape_iff.1 hg
    have hlen : x6.length < 2932031007402 := by omega
    obtain ⟨e, he1, he2, he3, he4, he5⟩ := step_sign hne hb hw
    have hg' : hshape t a (b + e) c d (s && wide a (b + e) c d) = true := hshape_iff.2 ⟨ht, ha, ⟨by omega, by omega⟩, hc, hd, fun z => by simp at z; exact z.2⟩
    have ew : wrap64 (b + e) = b + e := wr (by omega) (by omega)
    obtain ⟨l, hl, h1, h2⟩ := ih (by omega) k (x6 ++ [(⟨t, a, b + e, c, d, (s && wide a (b + e) c d)⟩ : S25)]) t a (b + e) c d (s && wide a (b + e) c d) (by omega) hg' (by simp; omega) (by omega)
    refine ⟨l, hl, ?_, ?_⟩
    · rw [spec_ShapeWay.l1, spec_shFingers.f, Option.bind_some, len4, if_pos (by decide), if_pos (by decide), rd4_1, if_neg hne, Option.bind_some, len4, if_pos (by decide), Option.bind_some, len4, if_pos (by decide), rd4_1, he1, Option.bind_some, ew, show (1 : Int) + 1 = 2 from rfl, w64_2, set2 k (by omega), Option.bind_some, if_pos hlen]
      exact h1
    · rw [impl_ShapeWay.l1, impl_Shape_bends.f, Option.bind_some, len4, if_pos (by decide), if_pos (by decide), rd4_1, if_neg hne, Option.bind_some, len4, if_pos (by decide), Option.bind_some, len4, if_pos (by decide), rd4_1, he2, Option.bind_some, ew, show (1 : Int) + 1 = 2 from rfl, w64_2, with2, Option.bind_some, if_pos hlen]
      exact h2
theorem way_at_1 {t2 a2 b2 c2 d2 : Int} {s2 : Bool} {K n : Nat} (hC : Both t2 a2 b2 c2 d2 s2 K 2 (n + 2)) (hn : n ≤ 38) (hK : 6 ≤ K) (hw : 0 ≤ b2 ∧ b2 ≤ 2) : Both t2 a2 b2 c2 d2 s2 (K + 4) 1 n := by
  intro k x6 t a b c d s hk hg hx
  obtain ⟨k, rfl⟩ : ∃ q, k = q + 1 := ⟨k - 1, by omega⟩
  obtain ⟨ht, ha, hb, hc, hd, hs⟩ := hshape_iff.1 hg
  rw [spec_ShapeWay.l0, impl_ShapeWay.l0, len4, if_pos (by decide), if_pos (by decide), if_pos (by decide), if_pos (by decide), if_pos (by decide), if_pos (by decide), rd4_1]
  exact way_l1_1 hC (by omega) hK b2 hw (b2 - b).natAbs (by omega) k x6 t a b c d s (by omega) hg (by omega) rfl
theorem way_l1_2 {t2 a2 b2 c2 d2 : Int} {s2 : Bool} {K n : Nat} (hC : Both t2 a2 b2 c2 d2 s2 K 3 (n + 2)) (hn : n ≤ 40) (hK : 6 ≤ K) (w : Int) (hw : 0 ≤ w ∧ w ≤ 2) : ∀ (m : Nat), m ≤ 2 → ∀ (k : Nat) (x6 : List S25) (t a b c d : Int) (s : Bool), K + m + 1 ≤ k → hshape t a b c d s = true → x6.length + m ≤ n + 2 → (w - c).natAbs = m →
    ∃ l : List S25, l.length ≤ 40 ∧ spec_ShapeWay.l1 k x6 2 w [a2, b2, c2, d2] 4 2 t2 a2 b2 c2 d2 s2 t a b c d s = some (l, true) ∧ impl_ShapeWay.l1 k x6 2 w [a2, b2, c2, d2] 4 2 t2 a2 b2 c2 d2 s2 t a b c d s = some (l, true) := by
  intro m
  induction m with
  | zero =>
    intro _ k x6 t a b c d s hk hg hx hv
    obtain ⟨k, rfl⟩ : ∃ q, k = q + 1 := ⟨k - 1, by omega⟩
    have heq : c = w := by omega
    obtain ⟨l, hl, h1, h2⟩ := hC k x6 t a b c d s (by omega) hg (by omega)
    refine ⟨l, hl, ?_, ?_⟩
    · rw [spec_ShapeWay.l1, spec_shFingers.f, Option.bind_some, len4, if_pos (by decide), if_pos (by decide), rd4_2, if_pos heq, show (2 : Int) + 1 = 3 from rfl, w64_3]
      exact h1
    · rw [impl_ShapeWay.l1, impl_Shape_bends.f, Option.bind_some, len4, if_pos (by decide), if_pos (by decide), rd4_2, if_pos heq, show (2 : Int) + 1 = 3 from rfl, w64_3]
      exact h2
  | succ m ih =>
    intro hm k x6 t a b c d s hk hg hx hv
    obtain ⟨k, rfl⟩ : ∃ q, k = q + 1 := ⟨k - 1, by omega⟩
    have hne : ¬ (c = w) := by omega
    obtain ⟨ht, ha, hb, hc, hd, hs⟩ := hshape_iff.1 hg
    have hlen : x6.length < 2932031007402 := by omega
    obtain ⟨e, he1, he2, he3, he4, he5⟩ := step_sign hne hc hw
    have hg' : hshape t a b (c + e) d (s && wide a b (c + e) d) = true := hshape_iff.2 ⟨ht, ha, hb, ⟨by omega, by omega⟩, hd, fun z => by simp at z; exact z.2⟩
    have ew : wrap64 (c + e) = c + e := wr (by omega) (by omega)
    obtain ⟨l, hl, h1, h2⟩ := ih (by omega) k (x6 ++ [(⟨t, a, b, c + e, d, (s && wide a b (c + e) d)⟩ : S25)]) t a b (c + e) d (s && wide a b (c + e) d) (by omega) hg' (by simp; omega) (by omega)
    refine ⟨l, hl, ?_, ?_⟩
    · rw [spec_ShapeWay.l1, spec_shFingers.f, Option.bind_some, len4, if_pos (by decide), if_pos (by decide), rd4_2, if_neg hne, Option.bind_some, len4, if_pos (by decide), Option.bind_some, len4, if_pos (by decide), rd4_2, he1, Option.bind_some, ew, show (2 : Int) + 1 = 3 from rfl, w64_3, set3 k (by omega), Option.bind_some, if_pos hlen]
      exact h1
    · rw [impl_ShapeWay.l1, impl_Shape_bends.f, Option.bind_some, len4, if_pos (by decide), if_pos (by decide), rd4_2, if_neg hne, Option.bind_some, len4, if_pos (by decide), Option.bind_some, len4, if_pos (by decide), rd4_2, he2, Option.bind_some, ew, show (2 : Int) + 1 = 3 from rfl, w64_3, with3, Option.bind_some, if_pos hlen]
      exact h2
theorem way_at_2 {t2 a2 b2 c2 d2 : Int} {s2 : Bool} {K n : Nat} (hC : Both t2 a2 b2 c2 d2 s2 K 3 (n + 2)) (hn : n ≤ 38) (hK : 6 ≤ K) (hw : 0 ≤ c2 ∧ c2 ≤ 2) : Both t2 a2 b2 c2 d2 s2 (K + 4) 2 n := by
  intro k x6 t a b c d s hk hg hx
  obtain ⟨k, rfl⟩ : ∃ q, k = q + 1 := ⟨k - 1, by omega⟩
  obtain ⟨ht, ha, hb, hc, hd, hs⟩ := hshape_iff.1 hg
  rw [spec_ShapeWay.l0, impl_ShapeWay.l0, len4, if_pos (by decide), if_pos (by decide), if_pos (by decide), if_pos (by decide), if_pos (by decide), if_pos (by decide), rd4_2]
  exact way_l1_2 hC (by omega) hK c2 hw (c2 - c).natAbs (by omega) k x6 t a b c d s (by omega) hg (by omega) rfl
theorem way_l1_3 {t2 a2 b2 c2 d2 : Int} {s2 : Bool} {K n : Nat} (hC : Both t2 a2 b2 c2 d2 s2 K 4 (n + 2)) (hn : n ≤ 40) (hK : 6 ≤ K) (w : Int) (hw : 0 ≤ w ∧ w ≤ 2) : ∀ (m : Nat), m ≤ 2 → ∀ (k : Nat) (x6 : List S25) (t a b c d : Int) (s : Bool), K + m + 1 ≤ k → hshape t a b c d s = true → x6.length + m ≤ n + 2 → (w - d).natAbs = m →
    ∃ l : List S25, l.length ≤ 40 ∧ spec_ShapeWay.l1 k x6 3 w [a2, b2, c2, d2] 4 3 t2 a2 b2 c2 d2 s2 t a b c d s = some (l, true) ∧ impl_ShapeWay.l1 k x6 3 w [a2, b2, c2, d2] 4 3 t2 a2 b2 c2 d2 s2 t a b c d s = some (l, true) := by
  intro m
  induction m with
  | zero =>
    intro _ k x6 t a b c d s hk hg hx hv
    obtain ⟨k, rfl⟩ : ∃ q, k = q + 1 := ⟨k - 1, by omega⟩
    have heq : d = w := by omega
    obtain ⟨l, hl, h1, h2⟩ := hC k x6 t a b c d s (by omega) hg (by omega)
    refine ⟨l, hl, ?_, ?_⟩
    · rw [spec_ShapeWay.l1, spec_shFingers.f, Option.bind_some, len4, if_pos (by decide), if_pos (by decide), rd4_3, if_pos heq, show (3 : Int) + 1 = 4 from rfl, w64_4]
      exact h1
    · rw [impl_ShapeWay.l1, impl_Shape_bends.f, Option.bind_some, len4, if_pos (by decide), if_pos (by decide), rd4_3, if_pos heq, show (3 : Int) + 1 = 4 from rfl, w64_4]
      exact h2
  | succ m ih =>
    intro hm k x6 t a b c d s hk hg hx hv
    obtain ⟨k, rfl⟩ : ∃ q, k = q + 1 := ⟨k - 1, by omega⟩
    have hne : ¬ (d = w) := by omega
    obtain ⟨ht, ha, hb, hc, hd, hs⟩ := hshape_iff.1 hg
    have hlen : x6.length < 2932031007402 := by omega
    obtain ⟨e, he1, he2, he3, he4, he5⟩ := step_sign hne hd hw
    have hg' : hshape t a b c (d + e) (s && wide a b c (d + e)) = true := hshape_iff.2 ⟨ht, ha, hb, hc, ⟨by omega, by omega⟩, fun z => by simp at z; exact z.2⟩
    have ew : wrap64 (d + e) = d + e := wr (by omega) (by omega)
    obtain ⟨l, hl, h1, h2⟩ := ih (by omega) k (x6 ++ [(⟨t, a, b, c, d + e, (s && wide a b c (d + e))⟩ : S25)]) t a b c (d + e) (s && wide a b c (d + e)) (by omega) hg' (by simp; omega) (by omega)
    refine ⟨l, hl, ?_, ?_⟩
    · rw [spec_ShapeWay.l1, spec_shFingers.f, Option.bind_some, len4, if_pos (by decide), if_pos (by decide), rd4_3, if_neg hne, Option.bind_some, len4, if_pos (by decide), Option.bind_some, len4, if_pos (by decide), rd4_3, he1, Option.bind_some, ew, show (3 : Int) + 1 = 4 from rfl, w64_4, set4 k (by omega), Option.bind_some, if_pos hlen]
      exact h1
    · rw [impl_ShapeWay.l1, impl_Shape_bends.f, Option.bind_some, len4, if_pos (by decide), if_pos (by decide), rd4_3, if_neg hne, Option.bind_some, len4, if_pos (by decide), Option.bind_some, len4, if_pos (by decide), rd4_3, he2, Option.bind_some, ew, show (3 : Int) + 1 = 4 from rfl, w64_4, with4, Option.bind_some, if_pos hlen]
      exact h2
theorem way_at_3 {t2 a2 b2 c2 d2 : Int} {s2 : Bool} {K n : Nat} (hC : Both t2 a2 b2 c2 d2 s2 K 4 (n + 2)) (hn : n ≤ 38) (hK : 6 ≤ K) (hw : 0 ≤ d2 ∧ d2 ≤ 2) : Both t2 a2 b2 c2 d2 s2 (K + 4) 3 n := by
  intro k x6 t a b c d s hk hg hx
  obtain ⟨k, rfl⟩ : ∃ q, k = q + 1 := ⟨k - 1, by omega⟩
  obtain ⟨ht, ha, hb, hc, hd, hs⟩ := hshape_iff.1 hg
  rw [spec_ShapeWay.l0, impl_ShapeWay.l0, len4, if_pos (by decide), if_pos (by decide), if_pos (by decide), if_pos (by decide), if_pos (by decide), if_pos (by decide), rd4_3]
  exact way_l1_3 hC (by omega) hK d2 hw (d2 - d).natAbs (by omega) k x6 t a b c d s (by omega) hg (by omega) rfl
theorem way_fingers {t2 a2 b2 c2 d2 : Int} {s2 : Bool} (h2 : hshape t2 a2 b2 c2 d2 s2 = true) : Both t2 a2 b2 c2 d2 s2 30 0 22 := by
  obtain ⟨-, ha, hb, hc, hd, -⟩ := hshape_iff.1 h2
  have e3 := way_at_3 (n := 28) (way_end t2 a2 b2 c2 d2 s2) (by omega) (by omega) hd
  have e2 := way_at_2 (n := 26) e3 (by omega) (by omega) hc
  have e1 := way_at_1 (n := 24) e2 (by omega) (by omega) hb
  have e0 := way_at_0 (n := 22) e1 (by omega) (by omega) ha
  exact fun k x6 t a b c d s hk hg hx => e0 k x6 t a b c d s (by omega) hg hx
/-- Both tell the same way of shapes. -/
theorem way_same (t a b c d : Int) (s : Bool) (t2 a2 b2 c2 d2 : Int) (s2 : Bool) (k : Nat) (hk : 50 ≤ k) : ∃ (l : List S25) (q : Bool), l.length ≤ 40 ∧ spec_ShapeWay.f k t a b c d s t2 a2 b2 c2 d2 s2 = some (l, q) ∧ impl_ShapeWay.f k t a b c d s t2 a2 b2 c2 d2 s2 = some (l, q) := by
  obtain ⟨k, rfl⟩ : ∃ q, k = q + 1 + 1 + 1 := ⟨k - 3, by omega⟩
  rw [spec_ShapeWay.f, impl_ShapeWay.f, hshape_spec t a b c d s _ (by omega), hshape_impl, Option.bind_some, Option.bind_some, hshape_spec t2 a2 b2 c2 d2 s2 _ (by omega), hshape_impl]
  cases hg : hshape t a b c d s
  · rw [if_neg (by decide), if_neg (by decide), spec_ShapeWay.j0, impl_ShapeWay.j0, if_pos rfl, if_pos rfl]
    exact ⟨_, _, by simp, rfl, rfl⟩
  rw [if_pos rfl, if_pos rfl, Option.bind_some, Option.bind_some, spec_ShapeWay.j0, impl_ShapeWay.j0]
  cases hg2 : hshape t2 a2 b2 c2 d2 s2
  · rw [if_pos (show (!false) = true from rfl), if_pos (show (!false) = true from rfl)]
    exact ⟨_, _, by simp, rfl, rfl⟩
  rw [if_neg (by decide), if_neg (by decide), Option.bind_some, Option.bind_some]
  have hF := way_fingers hg2
  have hgf : hshape t a b c d false = true := hshape_iff.2 ⟨(hshape_iff.1 hg).1, (hshape_iff.1 hg).2.1, (hshape_iff.1 hg).2.2.1, (hshape_iff.1 hg).2.2.2.1, (hshape_iff.1 hg).2.2.2.2.1, fun z => by cases z⟩
  have hlen : ([(⟨t, a, b, c, d, s⟩ : S25)] : List S25).length < 2932031007402 := by simp
  by_cases hq : s = true ∧ (!s2) = true
  · obtain ⟨hs, hs2⟩ := hq
    rw [if_pos hs, if_pos hs, spec_ShapeWay.j1, impl_ShapeWay.j1, if_pos hs2, if_pos hs2, if_pos hlen, if_pos hlen, spec_ShapeWay.j2, impl_ShapeWay.j2, spec_shFingers.f, impl_Shape_bends.f, Option.bind_some, Option.bind_some, len4]
    obtain ⟨l, hl, h1, h2⟩ := hF k ([(⟨t, a, b, c, d, s⟩ : S25)] ++ [(⟨t, a, b, c, d, false⟩ : S25)]) t a b c d false (by omega) hgf (by simp)
    exact ⟨l, true, hl, h1, h2⟩
  · obtain ⟨l, hl, h1, h2⟩ := hF k [(⟨t, a, b, c, d, s⟩ : S25)] t a b c d s (by omega) hg (by simp)
    refine ⟨l, true, hl, ?_, ?_⟩
    · cases s
      · rw [if_neg (by decide), spec_ShapeWay.j1, if_neg (by decide), spec_ShapeWay.j2, spec_shFingers.f, Option.bind_some, len4]
        exact h1
      · have : ¬ ((!s2) = true) := fun z => hq ⟨rfl, z⟩
        rw [if_pos rfl, spec_ShapeWay.j1, if_neg this, spec_ShapeWay.j2, spec_shFingers.f, Option.bind_some, len4]
        exact h1
    · cases s
      · rw [if_neg (by decide), impl_ShapeWay.j1, if_neg (by decide), impl_ShapeWay.j2, impl_Shape_bends.f, Option.bind_some, len4]
        exact h2
      · have : ¬ ((!s2) = true) := fun z => hq ⟨rfl, z⟩
        rw [if_pos rfl, impl_ShapeWay.j1, if_neg this, impl_ShapeWay.j2, impl_Shape_bends.f, Option.bind_some, len4]
        exact h2
end Go.Proofs.Ytaecjbhenknfkaa.MFnExactShapeWay
