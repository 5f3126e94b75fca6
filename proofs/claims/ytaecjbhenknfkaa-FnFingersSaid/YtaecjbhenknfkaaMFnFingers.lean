/- The words that the plain law behind FnFingers needs. -/
import Derived.Test.YtaecjbhenknfkaaFDx1
import Derived.Test.YtaecjbhenknfkaaFDx2
import Derived.Test.YtaecjbhenknfkaaFDx3
import Derived.Test.YtaecjbhenknfkaaFDx4
import Derived.Test.YtaecjbhenknfkaaFDx5
import Derived.Test.YtaecjbhenknfkaaFDx6
import Derived.Test.YtaecjbhenknfkaaFDx8
import Derived.Test.YtaecjbhenknfkaaFDx9
import Derived.Test.YtaecjbhenknfkaaFDx10
import Derived.Test.YtaecjbhenknfkaaFDx11
import Derived.Test.YtaecjbhenknfkaaFDx12
import Derived.Test.YtaecjbhenknfkaaFDx13
import Derived.Test.YtaecjbhenknfkaaFDx14
import Derived.Test.YtaecjbhenknfkaaFDx15
import Derived.Test.YtaecjbhenknfkaaFDx16
import Derived.Test.YtaecjbhenknfkaaFDx17
import Derived.Test.YtaecjbhenknfkaaFDx18
import Derived.Test.YtaecjbhenknfkaaFDx19
import Derived.Test.YtaecjbhenknfkaaFDx20
import Derived.Test.YtaecjbhenknfkaaFDx22
import Derived.Test.YtaecjbhenknfkaaFDx23
import Derived.Test.YtaecjbhenknfkaaFDx25
import Derived.Test.YtaecjbhenknfkaaFDx26
import Derived.Test.YtaecjbhenknfkaaFDx27
import Derived.Test.YtaecjbhenknfkaaFDx28
import Derived.Test.YtaecjbhenknfkaaFDx29 -- home: impl_IsEasyShape.f impl_IsShape.f impl_NearestShape.f impl_OpenFingers.f impl_OppositeShape.f impl_SetFinger.f impl_ShapeDistance.f impl_Shape_bends.f impl_Shape_distance.f impl_Shape_maySpread.f impl_Shape_with.f impl_allOf_Shape.f impl_allWithin.f impl_distance.f impl_within.f laws_FnFingers.f laws_big.f spec_DrawIsShape.f spec_DrawNearestShape.f spec_DrawOppositeShape.f spec_DrawSetFinger.f spec_IsEasyShape.f spec_NearestShape.f spec_OpenFingers.f spec_OppositeShape.f spec_SetFinger.f spec_l1Abs.f spec_l1All.f spec_l1Cur_among.f spec_l1Cur_anyShape.f spec_l1Cur_next.f spec_l1Cur_of.f spec_l1Cur_one.f spec_l1Cur_pick.f spec_l1Cur_shape.f spec_l1In.f spec_l1Most.f spec_shFar.f spec_shFingers.f spec_shGood.f spec_shMade.f spec_shParse.f spec_shSet.f spec_shWide.f
namespace Go.Proofs.Ytaecjbhenknfkaa.MFnFingers
open Go.RowKit Go.Proofs.Ytaecjbhenknfkaa.FD Go.Proofs.YtaecjbhenknfkaaW.PrintWords Go.Proofs.YtaecjbhenknfkaaW.PrintLast Go.Proofs.YtaecjbhenknfkaaW.PrintMore
set_option linter.unusedVariables false

theorem wr {x : Int} (h0 : -4611686018427387904 ≤ x) (h1 : x ≤ 4611686018427387904) : wrap64 x = x := by unfold wrap64; omega
theorem up {i n : Nat} (h : i < n) (hn : n ≤ 4611686018427387903) : wrap64 ((i : Int) + 1) = ((i + 1 : Nat) : Int) := by rw [wr (by omega) (by omega)]; rfl
theorem rd_nat (l : List Int) (i : Nat) : rd l (i : Int) = l.getD i 0 := rfl

theorem in_some (a b c : Int) : spec_l1In.f a b c = some (decide (b ≤ a ∧ a ≤ c)) := by
  unfold spec_l1In.f
  by_cases h : b ≤ a <;> simp [h]
theorem within_some (a b c : Int) : impl_within.f a b c = some (decide (b ≤ a ∧ a ≤ c)) := by
  unfold impl_within.f
  by_cases h : b ≤ a <;> simp [h]
/-- Something holds for the d places from i on. -/
def from_ (p : Nat → Bool) (i d : Nat) : Bool := (List.range' i d).all p
theorem from_zero (p : Nat → Bool) (i : Nat) : from_ p i 0 = true := rfl
theorem from_succ (p : Nat → Bool) (i d : Nat) : from_ p i (d + 1) = (p i && from_ p (i + 1) d) := by
  unfold from_; rw [List.range'_succ]; rfl
theorem from_iff (p : Nat → Bool) (n : Nat) : from_ p 0 n = true ↔ ∀ i, i < n → p i = true := by
  unfold from_
  rw [List.all_eq_true]
  exact ⟨fun h i hi => h i (by rw [List.mem_range']; exact ⟨i, hi, by omega⟩), fun h i hi => h i (by rw [List.mem_range'] at hi; obtain ⟨j, hj, rfl⟩ := hi; omega)⟩
theorem from_rd (p : Int → Bool) (l : List Int) : from_ (fun i => p (rd l (i : Int))) 0 l.length = l.all p := by
  rw [Bool.eq_iff_iff, from_iff, List.all_eq_true]
  constructor
  · intro h x hx
    obtain ⟨i, hi, rfl⟩ := List.getElem_of_mem hx
    have := h i hi
    rwa [rd_nat, List.getD_eq_getElem?_getD, List.getElem?_eq_getElem hi] at this
  · intro h i hi
    rw [rd_nat, List.getD_eq_getElem?_getD, List.getElem?_eq_getElem hi]
    exact h _ (List.getElem_mem hi)
theorem l1All_l0 (l : List Int) (lo hi : Int) (hn : l.length ≤ 4611686018427387903) : ∀ (d k i : Nat), i + d = l.length → d < k →
    spec_l1All.l0 k lo hi l (l.length : Int) (i : Int) = some (from_ (fun j => decide (lo ≤ rd l (j : Int) ∧ rd l (j : Int) ≤ hi)) i d) := by
  intro d
  induction d with
  | zero =>
    intro k i hi hk
    obtain ⟨k, rfl⟩ : ∃ q, k = q + 1 := ⟨k - 1, by omega⟩
    simp only [spec_l1All.l0]
    rw [if_neg (by omega), from_zero]
  | succ d ih =>
    intro k i hi hk
    obtain ⟨k, rfl⟩ : ∃ q, k = q + 1 := ⟨k - 1, by omega⟩
    simp only [spec_l1All.l0]
    rw [if_pos (by omega), if_pos (by omega), if_pos (by omega), in_some, from_succ, up (n := l.length) (by omega) hn, ih k (i + 1) (by omega) (by omega)]
    simp only [Option.bind_some]
    cases decide (lo ≤ rd l (i : Int) ∧ rd l (i : Int) ≤ _) <;> rfl
theorem l1All_eq (l : List Int) (lo hi : Int) (k : Nat) (hn : l.length ≤ 1048576) (hk : l.length < k) : spec_l1All.f k l lo hi = some (l.all fun x => decide (lo ≤ x ∧ x ≤ hi)) := by
  unfold spec_l1All.f
  rw [← from_rd]
  exact l1All_l0 l lo hi (by omega) l.length k 0 (by omega) hk
theorem allWithin_eq (l : List Int) (lo hi : Int) : impl_allWithin.f l lo hi = some (l.all fun x => decide (lo ≤ x ∧ x ≤ hi)) := by
  unfold impl_allWithin.f
  rw [List.not_any_eq_all_not]
  simp
/-- May these fingers be spread? -/
def wide (a b c d : Int) : Bool := (decide (a = 0) && decide (b = 0)) || ((decide (b = 0) && decide (c = 0)) || (decide (c = 0) && decide (d = 0)))
theorem wide_spec (t a b c d : Int) (s : Bool) (k : Nat) (hk : 5 < k) : spec_shWide.f k t a b c d s = some (wide a b c d) := by
  refine at_rounds (g := fun k => spec_shWide.f k t a b c d s) (fun k => spec_shWide.mono _ _ _ _ _ _ k) (k := 6) (by omega) ?_
  unfold spec_shWide.f spec_shFingers.f wide
  simp only [Option.bind_some]
  have w0 : wrap64 0 = 0 := wr (by decide) (by decide)
  have w1 : wrap64 1 = 1 := wr (by decide) (by decide)
  have w2 : wrap64 2 = 2 := wr (by decide) (by decide)
  have w3 : wrap64 3 = 3 := wr (by decide) (by decide)
  have w4 : wrap64 4 = 4 := wr (by decide) (by decide)
  have r0 : ∀ x y z u : Int, rd [x, y, z, u] 0 = x := fun _ _ _ _ => rfl
  have r1 : ∀ x y z u : Int, rd [x, y, z, u] 1 = y := fun _ _ _ _ => rfl
  have r2 : ∀ x y z u : Int, rd [x, y, z, u] 2 = z := fun _ _ _ _ => rfl
  have r3 : ∀ x y z u : Int, rd [x, y, z, u] 3 = u := fun _ _ _ _ => rfl
  by_cases ha : a = 0 <;> by_cases hb : b = 0 <;> by_cases hc : c = 0 <;> by_cases hd : d = 0 <;> simp [spec_shWide.l0, w0, w1, w2, w3, w4, r0, r1, r2, r3, ha, hb, hc, hd]
theorem wide_impl (t a b c d : Int) (s : Bool) : impl_Shape_maySpread.f t a b c d s = some (wide a b c d) := by
  unfold impl_Shape_maySpread.f wide
  by_cases ha : a = 0 <;> by_cases hb : b = 0 <;> by_cases hc : c = 0 <;> by_cases hd : d = 0 <;> simp [ha, hb, hc, hd]
/-- Is this a shape? -/
def hshape (t a b c d : Int) (s : Bool) : Bool := decide (0 ≤ t ∧ t ≤ 2) && (([a, b, c, d].all fun x => decide (0 ≤ x ∧ x ≤ 2)) && (!s || wide a b c d))
theorem hshape_spec (t a b c d : Int) (s : Bool) (k : Nat) (hk : 5 < k) : spec_shGood.f k t a b c d s = some (hshape t a b c d s) := by
  unfold spec_shGood.f hshape
  rw [in_some]
  simp only [Option.bind_some, spec_shFingers.f]
  rw [l1All_eq [a, b, c, d] 0 2 k (by simp) (by simp; omega), wide_spec t a b c d s k hk]
  simp only [Option.bind_some]
  generalize ([a, b, c, d].all fun x => decide (0 ≤ x ∧ x ≤ 2)) = q
  cases decide (0 ≤ t ∧ t ≤ 2) <;> cases q <;> cases s <;> simp
theorem hshape_impl (t a b c d : Int) (s : Bool) : impl_IsShape.f t a b c d s = some (hshape t a b c d s) := by
  unfold impl_IsShape.f hshape impl_Shape_bends.f
  simp only [Option.bind_some]
  rw [if_pos (by simp), allWithin_eq, wide_impl]
  simp only [Option.bind_some, List.cons_append, List.nil_append, List.all_cons (a := t)]
  generalize ([a, b, c, d].all fun x => decide (0 ≤ x ∧ x ≤ 2)) = q
  cases decide (0 ≤ t ∧ t ≤ 2) <;> cases q <;> cases s <;> simp
theorem w64_0 : wrap64 0 = 0 := wr (by decide) (by decide)
theorem w64_1 : wrap64 1 = 1 := wr (by decide) (by decide)
theorem w64_2 : wrap64 2 = 2 := wr (by decide) (by decide)
theorem w64_3 : wrap64 3 = 3 := wr (by decide) (by decide)
theorem w64_4 : wrap64 4 = 4 := wr (by decide) (by decide)
theorem rd4_0 (x y z u : Int) : rd [x, y, z, u] 0 = x := rfl
theorem rd4_1 (x y z u : Int) : rd [x, y, z, u] 1 = y := rfl
theorem rd4_2 (x y z u : Int) : rd [x, y, z, u] 2 = z := rfl
theorem rd4_3 (x y z u : Int) : rd [x, y, z, u] 3 = u := rfl
theorem hshape_iff {t a b c d : Int} {s : Bool} : hshape t a b c d s = true ↔ (0 ≤ t ∧ t ≤ 2) ∧ (0 ≤ a ∧ a ≤ 2) ∧ (0 ≤ b ∧ b ≤ 2) ∧ (0 ≤ c ∧ c ≤ 2) ∧ (0 ≤ d ∧ d ≤ 2) ∧ (s = true → wide a b c d = true) := by
  unfold hshape
  cases s <;> simp [and_assoc]
theorem most_some (a b : Int) : spec_l1Most.f a b = some (mx a b) := by
  unfold spec_l1Most.f mx
  by_cases h : a > b
  · rw [if_pos h, if_neg (by omega)]
  · rw [if_neg h]
    by_cases h2 : a < b
    · rw [if_pos h2]
    · rw [if_neg h2]; congr 1; omega
/-- The distance of two numbers. -/
def dist (a b : Int) : Int := mx (a - b) (b - a)
theorem dist_impl {a b : Int} (ha : 0 ≤ a ∧ a ≤ 2) (hb : 0 ≤ b ∧ b ≤ 2) : impl_distance.f a b = some (dist a b) := by
  unfold impl_distance.f dist
  rw [wr (by omega) (by omega), wr (by omega) (by omega)]
theorem dist_spec {a b : Int} (ha : 0 ≤ a ∧ a ≤ 2) (hb : 0 ≤ b ∧ b ≤ 2) : spec_l1Abs.f (wrap64 (a - b)) = some (dist a b) := by
  unfold spec_l1Abs.f dist
  rw [wr (x := a - b) (by omega) (by omega), wr (by omega) (by omega), most_some]
  simp only [Option.bind_some]
  congr 2; omega
/-- Both tell the same distance of two shapes. -/
theorem far_same6 {t a b c d : Int} {s : Bool} {t2 a2 b2 c2 d2 : Int} {s2 : Bool} (h : hshape t a b c d s = true) (h2 : hshape t2 a2 b2 c2 d2 s2 = true) :
    ∃ z, spec_shFar.f 6 t a b c d s t2 a2 b2 c2 d2 s2 = some z ∧ impl_Shape_distance.f 6 t a b c d s t2 a2 b2 c2 d2 s2 = some z := by
  obtain ⟨-, ha, hb, hc, hd, -⟩ := hshape_iff.1 h
  obtain ⟨-, ga, gb, gc, gd, -⟩ := hshape_iff.1 h2
  unfold spec_shFar.f impl_Shape_distance.f spec_shFingers.f impl_Shape_bends.f
  have x1 := dist_spec ha ga
  have x2 := dist_spec hb gb
  have x3 := dist_spec hc gc
  have x4 := dist_spec hd gd
  have y1 := dist_impl ha ga
  have y2 := dist_impl hb gb
  have y3 := dist_impl hc gc
  have y4 := dist_impl hd gd
  simp [spec_shFar.l0, impl_Shape_distance.l0, impl_Shape_bends.f, w64_1, w64_2, w64_3, w64_4, rd4_0, rd4_1, rd4_2, rd4_3, x1, x2, x3, x4, y1, y2, y3, y4]
  split <;> split <;> exact ⟨_, rfl⟩
theorem far_same {t a b c d : Int} {s : Bool} {t2 a2 b2 c2 d2 : Int} {s2 : Bool} (h : hshape t a b c d s = true) (h2 : hshape t2 a2 b2 c2 d2 s2 = true) :
    ∃ z, ∀ k, 6 ≤ k → spec_shFar.f k t a b c d s t2 a2 b2 c2 d2 s2 = some z ∧ impl_Shape_distance.f k t a b c d s t2 a2 b2 c2 d2 s2 = some z := by
  obtain ⟨z, h1, h3⟩ := far_same6 h h2
  exact ⟨z, fun k hk => ⟨at_rounds (g := fun k => spec_shFar.f k t a b c d s t2 a2 b2 c2 d2 s2) (fun k => spec_shFar.mono _ _ _ _ _ _ _ _ _ _ _ _ k) hk h1, at_rounds (g := fun k => impl_Shape_distance.f k t a b c d s t2 a2 b2 c2 d2 s2) (fun k => impl_Shape_distance.mono _ _ _ _ _ _ _ _ _ _ _ _ k) hk h3⟩⟩
def L3 : List Int := [0, 1, 2]
theorem three {a : Int} (h : 0 ≤ a ∧ a ≤ 2) : a ∈ L3 := by
  have : a = 0 ∨ a = 1 ∨ a = 2 := by omega
  rcases this with rfl | rfl | rfl <;> decide
theorem made (k : Nat) (hk : 5 < k) (t a b c d : Int) (s : Bool) : spec_shMade.f k t [a, b, c, d] s = some (t, a, b, c, d, s && wide a b c d) := by
  unfold spec_shMade.f
  rw [if_pos (by simp), if_pos (by simp), if_pos (by simp), if_pos (by simp), rd4_0, rd4_1, rd4_2, rd4_3, wide_spec _ _ _ _ _ _ _ hk]
  cases s <;> simp
theorem with0 (t a b c d : Int) (s : Bool) (v : Int) : impl_Shape_with.f t a b c d s 0 v = some (v, a, b, c, d, s && wide a b c d) := by
  unfold impl_Shape_with.f
  rw [if_pos rfl, wide_impl]
  cases s <;> simp
theorem with1 (t a b c d : Int) (s : Bool) (v : Int) : impl_Shape_with.f t a b c d s 1 v = some (t, v, b, c, d, s && wide v b c d) := by
  unfold impl_Shape_with.f
  rw [if_neg (by decide), if_pos rfl, wide_impl]
  cases s <;> simp
theorem with2 (t a b c d : Int) (s : Bool) (v : Int) : impl_Shape_with.f t a b c d s 2 v = some (t, a, v, c, d, s && wide a v c d) := by
  unfold impl_Shape_with.f
  rw [if_neg (by decide), if_neg (by decide), if_pos rfl, wide_impl]
  cases s <;> simp
theorem with3 (t a b c d : Int) (s : Bool) (v : Int) : impl_Shape_with.f t a b c d s 3 v = some (t, a, b, v, d, s && wide a b v d) := by
  unfold impl_Shape_with.f
  rw [if_neg (by decide), if_neg (by decide), if_neg (by decide), if_pos rfl, wide_impl]
  cases s <;> simp
theorem with4 (t a b c d : Int) (s : Bool) (v : Int) : impl_Shape_with.f t a b c d s 4 v = some (t, a, b, c, v, s && wide a b c v) := by
  unfold impl_Shape_with.f
  rw [if_neg (by decide), if_neg (by decide), if_neg (by decide), if_neg (by decide), wide_impl]
  cases s <;> simp
theorem set0 (k : Nat) (hk : 5 < k) (t a b c d : Int) (s : Bool) (v : Int) : spec_shSet.f k t a b c d s 0 v = some (v, a, b, c, d, s && wide a b c d) := by
  unfold spec_shSet.f spec_shFingers.f
  rw [if_pos rfl, Option.bind_some, made k hk]
  rfl
theorem set1 (k : Nat) (hk : 5 < k) (t a b c d : Int) (s : Bool) (v : Int) : spec_shSet.f k t a b c d s 1 v = some (t, v, b, c, d, s && wide v b c d) := by
  unfold spec_shSet.f spec_shFingers.f
  rw [if_neg (by decide), Option.bind_some, show (1 : Int) - 1 = 0 from rfl, w64_0, if_pos (by decide), if_pos (by simp), show ([a, b, c, d].set (0 : Int).toNat v) = [v, b, c, d] from rfl, made k hk]
  rfl
theorem set2 (k : Nat) (hk : 5 < k) (t a b c d : Int) (s : Bool) (v : Int) : spec_shSet.f k t a b c d s 2 v = some (t, a, v, c, d, s && wide a v c d) := by
  unfold spec_shSet.f spec_shFingers.f
  rw [if_neg (by decide), Option.bind_some, show (2 : Int) - 1 = 1 from rfl, w64_1, if_pos (by decide), if_pos (by simp), show ([a, b, c, d].set (1 : Int).toNat v) = [a, v, c, d] from rfl, made k hk]
  rfl
theorem set3 (k : Nat) (hk : 5 < k) (t a b c d : Int) (s : Bool) (v : Int) : spec_shSet.f k t a b c d s 3 v = some (t, a, b, v, d, s && wide a b v d) := by
  unfold spec_shSet.f spec_shFingers.f
  rw [if_neg (by decide), Option.bind_some, show (3 : Int) - 1 = 2 from rfl, w64_2, if_pos (by decide), if_pos (by simp), show ([a, b, c, d].set (2 : Int).toNat v) = [a, b, v, d] from rfl, made k hk]
  rfl
theorem set4 (k : Nat) (hk : 5 < k) (t a b c d : Int) (s : Bool) (v : Int) : spec_shSet.f k t a b c d s 4 v = some (t, a, b, c, v, s && wide a b c v) := by
  unfold spec_shSet.f spec_shFingers.f
  rw [if_neg (by decide), Option.bind_some, show (4 : Int) - 1 = 3 from rfl, w64_3, if_pos (by decide), if_pos (by simp), show ([a, b, c, d].set (3 : Int).toNat v) = [a, b, c, v] from rfl, made k hk]
  rfl
theorem in_yes {x lo hi : Int} (h : lo ≤ x ∧ x ≤ hi) : spec_l1In.f x lo hi = some true := by
  unfold spec_l1In.f
  rw [if_pos h.1, decide_eq_true h.2]
theorem in_no {x lo hi : Int} (h : ¬ (lo ≤ x ∧ x ≤ hi)) : spec_l1In.f x lo hi = some false := by
  unfold spec_l1In.f
  by_cases q : x ≥ lo
  · rw [if_pos q, decide_eq_false (fun z => h ⟨q, z⟩)]
  · rw [if_neg q]
theorem within_in (x lo hi : Int) : impl_within.f x lo hi = spec_l1In.f x lo hi := rfl
theorem sort_is (l m : List Int) (h : l.Perm m) (hm : m.Pairwise (fun x y => decide (x ≤ y) = true)) : (l.mergeSort fun x y => decide (x ≤ y)) = m := by
  have h1 := List.mergeSort_perm l (fun x y => decide (x ≤ y))
  have h2 := List.pairwise_mergeSort (le := fun x y : Int => decide (x ≤ y)) (by intro a b c; simp; omega) (by intro a b; simp; omega) l
  exact (h1.trans h).eq_of_pairwise (le := fun x y => decide (x ≤ y) = true) (by intro a b _ _; simp; omega) h2 hm
def insI (x : Int) : List Int → List Int
  | [] => [x]
  | y :: ys => if x ≤ y then x :: y :: ys else y :: insI x ys
def isortI : List Int → List Int
  | [] => []
  | x :: xs => insI x (isortI xs)
theorem sort_fin : ∀ a ∈ L3, ∀ b ∈ L3, ∀ c ∈ L3, ∀ d ∈ L3, [a, b, c, d].isPerm (isortI [a, b, c, d]) = true ∧ (isortI [a, b, c, d]).Pairwise (fun x y => decide (x ≤ y) = true) := by decide +kernel
/-- Easy, as the implementation reckons it. -/
def easyI (a b c d : Int) : Bool := if (impl_distance.f c d).getD 0 ≤ 1 then (if (impl_distance.f c b).getD 0 ≤ 1 then decide (((Lib.compact (isortI [a, b, c, d])).length : Int) ≤ 2) else false) else false
theorem easy_fin : ∀ a ∈ L3, ∀ b ∈ L3, ∀ c ∈ L3, ∀ d ∈ L3, ∀ t ∈ L3, ∀ s ∈ [true, false], spec_IsEasyShape.l0 20 [] [a, b, c, d] 4 0 t a b c d s = some (easyI a b c d, true) := by decide +kernel
theorem easy_same (t a b c d : Int) (s : Bool) (k : Nat) (hk : 20 ≤ k) : ∃ z, spec_IsEasyShape.f k t a b c d s = some z ∧ impl_IsEasyShape.f t a b c d s = some z := by
  unfold spec_IsEasyShape.f impl_IsEasyShape.f
  rw [hshape_spec t a b c d s k (by omega), hshape_impl]
  simp only [Option.bind_some]
  cases hg : hshape t a b c d s
  · exact ⟨(false, false), rfl, rfl⟩
  obtain ⟨ht, ha, hb, hc, hd, -⟩ := hshape_iff.1 hg
  obtain ⟨h1, h2⟩ := sort_fin _ (three ha) _ (three hb) _ (three hc) _ (three hd)
  have h3 := easy_fin _ (three ha) _ (three hb) _ (three hc) _ (three hd) _ (three ht) s (by cases s <;> simp)
  have h4 : spec_IsEasyShape.l0 k [] [a, b, c, d] 4 0 t a b c d s = some (easyI a b c d, true) := at_rounds (g := fun k => spec_IsEasyShape.l0 k [] [a, b, c, d] 4 0 t a b c d s) (fun k => spec_IsEasyShape.mono_l k _ _ _ _ _ _ _ _ _ _) hk h3
  refine ⟨(easyI a b c d, true), ?_, ?_⟩
  · unfold spec_shFingers.f
    simp only [Option.bind_some, if_true]
    exact h4
  · have e : impl_IsEasyShape.kinds a b c d = (Lib.compact (isortI [a, b, c, d])).length := by
      unfold impl_IsEasyShape.kinds
      rw [sort_is _ _ (List.isPerm_iff.1 h1) h2]
    unfold easyI
    rw [dist_impl hc hd, dist_impl hc hb, e]
    simp only [Option.bind_some, if_true, Option.getD_some]
/-- Is this one a shape? -/
def gs (x : S25) : Bool := hshape x.f0 x.f1 x.f2 x.f3 x.f4 x.f5
theorem rdS (pre : List S25) (x : S25) (rest : List S25) : rd_T25 (pre ++ x :: rest) (pre.length : Int) = x := by
  unfold rd_T25; simp
theorem allOf_eq (l : List S25) : impl_allOf_Shape.f l = some (l.all gs) := by
  unfold impl_allOf_Shape.f
  have h1 : (l.all fun x => (impl_IsShape.f x.f0 x.f1 x.f2 x.f3 x.f4 x.f5).isSome) = true := by
    rw [List.all_eq_true]; intro x _; rw [hshape_impl]; rfl
  rw [if_pos h1]
  congr 2
  funext x
  unfold impl_allOf_Shape.p gs
  rw [hshape_impl]
  cases hshape x.f0 x.f1 x.f2 x.f3 x.f4 x.f5 <;> rfl
/-- The distance of two shapes. -/
def dfar (x : S25) (t a b c d : Int) (s : Bool) : Int := (spec_shFar.f 6 x.f0 x.f1 x.f2 x.f3 x.f4 x.f5 t a b c d s).getD 0
theorem dfar_eq {x : S25} {t a b c d : Int} {s : Bool} (hx : gs x = true) (hs : hshape t a b c d s = true) (k : Nat) (hk : 6 ≤ k) :
    spec_shFar.f k x.f0 x.f1 x.f2 x.f3 x.f4 x.f5 t a b c d s = some (dfar x t a b c d s) ∧ impl_Shape_distance.f k x.f0 x.f1 x.f2 x.f3 x.f4 x.f5 t a b c d s = some (dfar x t a b c d s) := by
  obtain ⟨z, hz⟩ := far_same hx hs
  have e : dfar x t a b c d s = z := by unfold dfar; rw [(hz 6 (by omega)).1]; rfl
  rw [e]
  exact hz k hk
theorem good_at {x : S25} (hx : gs x = true) (k : Nat) (hk : 5 < k) : spec_shGood.f k x.f0 x.f1 x.f2 x.f3 x.f4 x.f5 = some true := by
  rw [hshape_spec _ _ _ _ _ _ k hk]; exact congrArg some hx
/-- One that is no shape. -/
theorem nearest_bad {t a b c d : Int} {s : Bool} (hs : hshape t a b c d s = true) (L : List S25) (hL : L.length ≤ 1048576) : ∀ (rest pre : List S25) (u v : Int) (k : Nat), pre ++ rest = L → rest.all gs = false → rest.length + 10 < k →
    spec_NearestShape.l0 k u v L (L.length : Int) (pre.length : Int) t a b c d s = some (0, 0, false) := by
  intro rest
  induction rest with
  | nil => intro pre u v k h hc hk; cases hc
  | cons x xs ih =>
    intro pre u v k h hc hk
    obtain ⟨k, rfl⟩ : ∃ q, k = q + 1 := ⟨k - 1, by omega⟩
    rw [List.length_cons] at hk
    have hpl : pre.length < L.length := by rw [← h]; simp
    have c1 : (pre.length : Int) < (L.length : Int) := by omega
    have c2 : (0 : Int) ≤ (pre.length : Int) := by omega
    have hr : rd_T25 L (pre.length : Int) = x := by rw [← h]; exact rdS pre x xs
    have hw : wrap64 ((pre.length : Int) + 1) = ((pre ++ [x]).length : Int) := by rw [wr (by omega) (by omega)]; simp
    simp only [spec_NearestShape.l0, c1, c2, if_true, hr]
    rw [hshape_spec x.f0 x.f1 x.f2 x.f3 x.f4 x.f5 k (by omega)]
    simp only [Option.bind_some]
    cases hx : hshape x.f0 x.f1 x.f2 x.f3 x.f4 x.f5
    · rfl
    · have hgx : gs x = true := hx
      rw [List.all_cons, hgx, Bool.true_and] at hc
      simp only [if_true, (dfar_eq hgx hs k (by omega)).1, Option.bind_some, hw]
      have e := fun u v => ih (pre ++ [x]) u v k (by rw [← h]; simp) hc (by omega)
      split
      · exact e _ _
      · split
        · exact e _ _
        · exact e _ _
theorem wd {x : Int} (h0 : -4611686018427387904 ≤ x) (h1 : x ≤ 4611686018427387904) : wrap64 x = x := by unfold wrap64; omega
theorem band255 (x : Int) : 0 ≤ Go.bits .and .u64 x 255 ∧ Go.bits .and .u64 x 255 ≤ 255 := by
  have h : ((BitVec.ofInt 64 x) &&& (BitVec.ofInt 64 255)).toNat ≤ 255 := by
    rw [BitVec.toNat_and]; exact Nat.and_le_right
  have e : Go.bits .and .u64 x 255 = (((BitVec.ofInt 64 x) &&& (BitVec.ofInt 64 255)).toNat : Int) % 18446744073709551616 := rfl
  omega
theorem rd_byte {l : List Int} (hl : ∀ x ∈ l, (Lit.int .u8 x).wf = true) (i : Int) : 0 ≤ rd l i ∧ rd l i ≤ 255 := by
  unfold rd
  rw [List.getD_eq_getElem?_getD]
  rcases Nat.lt_or_ge i.toNat l.length with h | h
  · rw [List.getElem?_eq_getElem h]
    have := hl _ (List.getElem_mem h)
    have h2 : (decide (IntKind.u8.min ≤ l[i.toNat]) && decide (l[i.toNat] ≤ IntKind.u8.max)) = true := this
    simp only [Bool.and_eq_true, decide_eq_true_eq, show IntKind.u8.min = 0 from rfl, show IntKind.u8.max = 255 from rfl] at h2
    simp only [Option.getD_some]
    omega
  · rw [List.getElem?_eq_none h]; simp
theorem next_some {l : List Int} (hl : ∀ x ∈ l, (Lit.int .u8 x).wf = true) (p s : Int) (h0 : 0 ≤ p) (h1 : p ≤ 1000000000000) : ∃ v t : Int, spec_l1Cur_next.f l p s = some (v, p + 1, t) ∧ 0 ≤ v ∧ v ≤ 255 := by
  have hb := rd_byte hl p
  unfold spec_l1Cur_next.f
  rw [wd (x := p + 1) (by omega) (by omega)]
  split
  · (first | rw [if_pos h0] | skip)
    split
    · exact ⟨_, _, rfl, by rw [wd (by omega) (by omega)]; exact hb.1, by rw [wd (by omega) (by omega)]; exact hb.2⟩
    · refine ⟨_, _, rfl, ?_, ?_⟩
      · have := band255 (IntKind.u64.wrap (IntKind.u64.wrap (IntKind.u64.wrap (s * 6364136223846793005) + IntKind.u64.wrap (wrap64 (rd l p))) + 1442695040888963407) / 1099511627776)
        rw [wd (by omega) (by omega)]; exact this.1
      · have := band255 (IntKind.u64.wrap (IntKind.u64.wrap (IntKind.u64.wrap (s * 6364136223846793005) + IntKind.u64.wrap (wrap64 (rd l p))) + 1442695040888963407) / 1099511627776)
        rw [wd (by omega) (by omega)]; exact this.2
  · split
    · exact ⟨0, _, rfl, by omega, by omega⟩
    · refine ⟨_, _, rfl, ?_, ?_⟩
      · have := band255 (IntKind.u64.wrap (IntKind.u64.wrap (IntKind.u64.wrap (s * 6364136223846793005)) + 1442695040888963407) / 1099511627776)
        rw [wd (by omega) (by omega)]; exact this.1
      · have := band255 (IntKind.u64.wrap (IntKind.u64.wrap (IntKind.u64.wrap (s * 6364136223846793005)) + 1442695040888963407) / 1099511627776)
        rw [wd (by omega) (by omega)]; exact this.2
theorem pick_some {l : List Int} (hl : ∀ x ∈ l, (Lit.int .u8 x).wf = true) (p s a : Int) (h0 : 0 ≤ p) (h1 : p ≤ 900000000000) (ha : 1 ≤ a) : ∃ v q t : Int, spec_l1Cur_pick.f l p s a = some (v, q, t) ∧ 0 ≤ v ∧ v < a ∧ p ≤ q ∧ q ≤ p + 2 := by
  unfold spec_l1Cur_pick.f
  split
  · exact ⟨0, p, s, rfl, by omega, by omega, by omega, by omega⟩
  · obtain ⟨v, t, e, hv0, hv1⟩ := next_some hl p s h0 (by omega)
    rw [e]
    simp only [Option.bind_some]
    split
    · obtain ⟨v2, t2, e2, hw0, hw1⟩ := next_some hl (p + 1) t (by omega) (by omega)
      rw [e2]
      simp only [Option.bind_some]
      rw [if_neg (by omega), wd (x := v * 256) (by omega) (by omega), wd (x := v * 256 + v2) (by omega) (by omega)]
      exact ⟨_, _, _, rfl, Int.tmod_nonneg _ (by omega), Int.tmod_lt_of_pos _ (by omega), by omega, by omega⟩
    · rw [if_neg (by omega)]
      exact ⟨_, _, _, rfl, Int.tmod_nonneg _ (by omega), Int.tmod_lt_of_pos _ (by omega), by omega, by omega⟩
theorem one_some {l : List Int} (hl : ∀ x ∈ l, (Lit.int .u8 x).wf = true) (p s a : Int) (h0 : 0 ≤ p) (h1 : p ≤ 900000000000) (ha : 1 ≤ a) : ∃ (v : Bool) (q t : Int), spec_l1Cur_one.f l p s a = some (v, q, t) ∧ p ≤ q ∧ q ≤ p + 2 := by
  obtain ⟨v, q, t, e, -, -, hq, hq2⟩ := pick_some hl p s a h0 h1 ha
  unfold spec_l1Cur_one.f
  rw [e]
  exact ⟨_, _, _, rfl, hq, hq2⟩
theorem among_some {l : List Int} (hl : ∀ x ∈ l, (Lit.int .u8 x).wf = true) (p s : Int) (m : List Int) (h0 : 0 ≤ p) (h1 : p ≤ 900000000000) (hm : 1 ≤ m.length) : ∃ v q t : Int, spec_l1Cur_among.f l p s m = some (v, q, t) ∧ p ≤ q ∧ q ≤ p + 2 := by
  obtain ⟨v, q, t, e, hv0, hv1, hq, hq2⟩ := pick_some hl p s m.length h0 h1 (by omega)
  unfold spec_l1Cur_among.f
  rw [e]
  simp only [Option.bind_some]
  rw [if_pos hv0, if_pos hv1]
  exact ⟨_, _, _, rfl, hq, hq2⟩
/-- What the setting of a finger keeps. -/
def SetOk (t a b c d : Int) (s : Bool) (f v r1 r2 r3 r4 r5 : Int) (r6 : Bool) : Prop := hshape r1 r2 r3 r4 r5 r6 = true ∧ (r6 = true → s = true) ∧ ∀ i : Nat, i < 5 → ((i : Int) = f → rd [r1, r2, r3, r4, r5] (i : Int) = v) ∧ (¬ (i : Int) = f → rd [r1, r2, r3, r4, r5] (i : Int) = rd [t, a, b, c, d] (i : Int))
theorem set_ok {t a b c d : Int} {s : Bool} (hg : hshape t a b c d s = true) {v : Int} (hv : 0 ≤ v ∧ v ≤ 2) :
    SetOk t a b c d s 0 v v a b c d (s && wide a b c d) ∧ SetOk t a b c d s 1 v t v b c d (s && wide v b c d) ∧ SetOk t a b c d s 2 v t a v c d (s && wide a v c d) ∧ SetOk t a b c d s 3 v t a b v d (s && wide a b v d) ∧ SetOk t a b c d s 4 v t a b c v (s && wide a b c v) := by
  obtain ⟨ht, ha, hb, hc, hd, -⟩ := hshape_iff.1 hg
  have w : ∀ x y : Bool, (x && y) = true → y = true := fun x y h => (Bool.and_eq_true_iff.1 h).2
  have u : ∀ x y : Bool, (x && y) = true → x = true := fun x y h => (Bool.and_eq_true_iff.1 h).1
  refine ⟨⟨hshape_iff.2 ⟨hv, ha, hb, hc, hd, w _ _⟩, u _ _, fun i hi => ?_⟩, ⟨hshape_iff.2 ⟨ht, hv, hb, hc, hd, w _ _⟩, u _ _, fun i hi => ?_⟩, ⟨hshape_iff.2 ⟨ht, ha, hv, hc, hd, w _ _⟩, u _ _, fun i hi => ?_⟩, ⟨hshape_iff.2 ⟨ht, ha, hb, hv, hd, w _ _⟩, u _ _, fun i hi => ?_⟩, ⟨hshape_iff.2 ⟨ht, ha, hb, hc, hv, w _ _⟩, u _ _, fun i hi => ?_⟩⟩ <;>
  · obtain h | h | h | h | h : i = 0 ∨ i = 1 ∨ i = 2 ∨ i = 3 ∨ i = 4 := by omega
    all_goals
      subst h
      exact ⟨fun h => by first | rfl | (exact absurd h (by decide)), fun h => by first | rfl | (exact absurd rfl h)⟩
theorem set_facts (t a b c d : Int) (s : Bool) (f v : Int) : ∃ (r1 r2 r3 r4 r5 : Int) (r6 ok : Bool), impl_SetFinger.f t a b c d s f v = some (r1, r2, r3, r4, r5, r6, ok) ∧ (∀ k, 5 < k → spec_SetFinger.f k t a b c d s f v = some (r1, r2, r3, r4, r5, r6, ok)) ∧ (ok = true → SetOk t a b c d s f v r1 r2 r3 r4 r5 r6) := by
  unfold impl_SetFinger.f spec_SetFinger.f
  rw [hshape_impl]
  cases hg : hshape t a b c d s
  · exact ⟨0, 0, 0, 0, 0, false, false, rfl, fun k hk => by rw [hshape_spec t a b c d s k hk, hg]; rfl, fun h => by cases h⟩
  simp only [Option.bind_some, if_true, within_in]
  by_cases h1 : 0 ≤ f ∧ f ≤ 4
  · rw [in_yes h1]
    simp only [Option.bind_some, if_true]
    by_cases h2 : 0 ≤ v ∧ v ≤ 2
    · rw [in_yes h2]
      simp only [Option.bind_some, if_true]
      obtain ⟨o0, o1, o2, o3, o4⟩ := set_ok hg h2
      have h3 : f = 0 ∨ f = 1 ∨ f = 2 ∨ f = 3 ∨ f = 4 := by omega
      rcases h3 with rfl | rfl | rfl | rfl | rfl
      · rw [with0]; exact ⟨_, _, _, _, _, _, _, rfl, fun k hk => by rw [hshape_spec t a b c d s k hk, hg, set0 k hk]; rfl, fun _ => o0⟩
      · rw [with1]; exact ⟨_, _, _, _, _, _, _, rfl, fun k hk => by rw [hshape_spec t a b c d s k hk, hg, set1 k hk]; rfl, fun _ => o1⟩
      · rw [with2]; exact ⟨_, _, _, _, _, _, _, rfl, fun k hk => by rw [hshape_spec t a b c d s k hk, hg, set2 k hk]; rfl, fun _ => o2⟩
      · rw [with3]; exact ⟨_, _, _, _, _, _, _, rfl, fun k hk => by rw [hshape_spec t a b c d s k hk, hg, set3 k hk]; rfl, fun _ => o3⟩
      · rw [with4]; exact ⟨_, _, _, _, _, _, _, rfl, fun k hk => by rw [hshape_spec t a b c d s k hk, hg, set4 k hk]; rfl, fun _ => o4⟩
    · rw [in_no h2]; exact ⟨0, 0, 0, 0, 0, false, false, rfl, fun k hk => by rw [hshape_spec t a b c d s k hk, hg]; rfl, fun h => by cases h⟩
  · rw [in_no h1]; exact ⟨0, 0, 0, 0, 0, false, false, rfl, fun k hk => by rw [hshape_spec t a b c d s k hk, hg]; rfl, fun h => by cases h⟩
def is7 (x : Option (Int × Int × Int × Int × Int × Bool × Bool)) (t a b c d : Int) : Bool := match x with
  | some (t', a', b', c', d', false, true) => decide (t' = t) && (decide (a' = a) && (decide (b' = b) && (decide (c' = c) && decide (d' = d))))
  | _ => false
theorem is7_eq {x : Option (Int × Int × Int × Int × Int × Bool × Bool)} {t a b c d : Int} (h : is7 x t a b c d = true) : x = some (t, a, b, c, d, false, true) := by
  unfold is7 at h
  split at h
  · simp only [Bool.and_eq_true, decide_eq_true_eq] at h
    obtain ⟨rfl, rfl, rfl, rfl, rfl⟩ := h
    rfl
  · cases h
/-- What is found out of an opposite shape. -/
def oppok (t a b c d : Int) (s : Bool) : Bool := match impl_OppositeShape.f 20 t a b c d s with
  | some (o1, o2, o3, o4, o5, false, true) => is7 (spec_OppositeShape.f 20 t a b c d s) o1 o2 o3 o4 o5 && (is7 (impl_OppositeShape.f 20 o1 o2 o3 o4 o5 false) t a b c d && (match impl_OpenFingers.f 20 t a b c d s, impl_OpenFingers.f 20 o1 o2 o3 o4 o5 false with
    | some (n, true), some (m, true) => decide (spec_OpenFingers.f 20 t a b c d s = some (n, true)) && (decide (spec_OpenFingers.f 20 o1 o2 o3 o4 o5 false = some (m, true)) && (decide (0 ≤ n) && (decide (0 ≤ m) && decide (n + m ≤ 4))))
    | _, _ => false))
  | _ => false
theorem opp_fin : ∀ t ∈ L3, ∀ a ∈ L3, ∀ b ∈ L3, ∀ c ∈ L3, ∀ d ∈ L3, ∀ s ∈ [true, false], (!hshape t a b c d s || oppok t a b c d s) = true := by decide +kernel
theorem opp_facts {t a b c d : Int} {s : Bool} (h : hshape t a b c d s = true) : ∃ (o1 o2 o3 o4 o5 n m : Int), 0 ≤ n ∧ 0 ≤ m ∧ n + m ≤ 4 ∧ ∀ k, 20 ≤ k →
    impl_OppositeShape.f k t a b c d s = some (o1, o2, o3, o4, o5, false, true) ∧ spec_OppositeShape.f k t a b c d s = some (o1, o2, o3, o4, o5, false, true) ∧ impl_OppositeShape.f k o1 o2 o3 o4 o5 false = some (t, a, b, c, d, false, true) ∧
    impl_OpenFingers.f k t a b c d s = some (n, true) ∧ spec_OpenFingers.f k t a b c d s = some (n, true) ∧ impl_OpenFingers.f k o1 o2 o3 o4 o5 false = some (m, true) ∧ spec_OpenFingers.f k o1 o2 o3 o4 o5 false = some (m, true) := by
  obtain ⟨ht, ha, hb, hc, hd, -⟩ := hshape_iff.1 h
  have h1 := opp_fin _ (three ht) _ (three ha) _ (three hb) _ (three hc) _ (three hd) s (by cases s <;> simp)
  rw [h, Bool.not_true, Bool.false_or] at h1
  unfold oppok at h1
  split at h1
  · rename_i o1 o2 o3 o4 o5 e1
    rw [Bool.and_eq_true, Bool.and_eq_true] at h1
    obtain ⟨e2, e3, h2⟩ := h1
    split at h2
    · rename_i n m e4 e5
      replace e2 := is7_eq e2
      replace e3 := is7_eq e3
      simp only [Bool.and_eq_true, decide_eq_true_eq] at h2
      obtain ⟨e6, e7, p1, p2, p3⟩ := h2
      refine ⟨o1, o2, o3, o4, o5, n, m, p1, p2, p3, fun k hk => ?_⟩
      have u1 : ∀ {t a b c d : Int} {s : Bool} {z}, impl_OppositeShape.f 20 t a b c d s = some z → impl_OppositeShape.f k t a b c d s = some z := fun {t a b c d s z} h => at_rounds (g := fun k => impl_OppositeShape.f k t a b c d s) (fun k => impl_OppositeShape.mono _ _ _ _ _ _ k) hk h
      have u2 : ∀ {t a b c d : Int} {s : Bool} {z}, spec_OppositeShape.f 20 t a b c d s = some z → spec_OppositeShape.f k t a b c d s = some z := fun {t a b c d s z} h => at_rounds (g := fun k => spec_OppositeShape.f k t a b c d s) (fun k => spec_OppositeShape.mono _ _ _ _ _ _ k) hk h
      have u3 : ∀ {t a b c d : Int} {s : Bool} {z}, impl_OpenFingers.f 20 t a b c d s = some z → impl_OpenFingers.f k t a b c d s = some z := fun {t a b c d s z} h => at_rounds (g := fun k => impl_OpenFingers.f k t a b c d s) (fun k => impl_OpenFingers.mono _ _ _ _ _ _ k) hk h
      have u4 : ∀ {t a b c d : Int} {s : Bool} {z}, spec_OpenFingers.f 20 t a b c d s = some z → spec_OpenFingers.f k t a b c d s = some z := fun {t a b c d s z} h => at_rounds (g := fun k => spec_OpenFingers.f k t a b c d s) (fun k => spec_OpenFingers.mono _ _ _ _ _ _ k) hk h
      exact ⟨u1 e1, u2 e2, u1 e3, u3 e4, u4 e6, u3 e5, u4 e7⟩
    · cases h2
  · cases h1
theorem opp_bad {t a b c d : Int} {s : Bool} (h : hshape t a b c d s = false) (k : Nat) (hk : 5 < k) :
    impl_OppositeShape.f k t a b c d s = some (0, 0, 0, 0, 0, false, false) ∧ spec_OppositeShape.f k t a b c d s = some (0, 0, 0, 0, 0, false, false) ∧ impl_OpenFingers.f k t a b c d s = some (0, false) ∧ spec_OpenFingers.f k t a b c d s = some (0, false) := by
  unfold impl_OppositeShape.f spec_OppositeShape.f impl_OpenFingers.f spec_OpenFingers.f
  rw [hshape_impl, hshape_spec t a b c d s k hk, h]
  exact ⟨rfl, rfl, rfl, rfl⟩
theorem easy_facts (t a b c d : Int) (s : Bool) (k : Nat) (hk : 20 ≤ k) : ∃ e, spec_IsEasyShape.f k t a b c d s = some (e, hshape t a b c d s) ∧ impl_IsEasyShape.f t a b c d s = some (e, hshape t a b c d s) := by
  obtain ⟨⟨e, b2⟩, h1, h2⟩ := easy_same t a b c d s k hk
  have h3 : b2 = hshape t a b c d s := by
    unfold impl_IsEasyShape.f at h2
    rw [hshape_impl, Option.bind_some] at h2
    cases hg : hshape t a b c d s
    · rw [hg] at h2
      simp only [Bool.false_eq_true, if_false, Option.some.injEq, Prod.mk.injEq] at h2
      exact h2.2.symm
    · rw [hg] at h2
      obtain ⟨-, ha, hb, hc, hd, -⟩ := hshape_iff.1 hg
      rw [if_pos rfl, dist_impl hc hd, Option.bind_some, dist_impl hc hb, Option.bind_some] at h2
      simp only [Option.some.injEq, Prod.mk.injEq] at h2
      exact h2.2.symm
  subst h3
  exact ⟨e, h1, h2⟩
/-- The first of the nearest. -/
def First (L : List S25) (t a b c d : Int) (s : Bool) (i : Nat) (n : Nat) : Prop := i < n ∧ ∀ j : Nat, j < n → dfar (rd_T25 L (i : Int)) t a b c d s ≤ dfar (rd_T25 L (j : Int)) t a b c d s ∧ (j < i → dfar (rd_T25 L (i : Int)) t a b c d s < dfar (rd_T25 L (j : Int)) t a b c d s)
theorem near_l0 {t a b c d : Int} {s : Bool} (hs : hshape t a b c d s = true) (L : List S25) (hL : L.length ≤ 1048576) (hg : L.all gs = true) : ∀ (rest pre : List S25) (b0 k : Nat), pre ++ rest = L → First L t a b c d s b0 pre.length → rest.length + 10 < k →
    ∃ i, First L t a b c d s i L.length ∧ spec_NearestShape.l0 k (b0 : Int) (dfar (rd_T25 L (b0 : Int)) t a b c d s) L (L.length : Int) (pre.length : Int) t a b c d s = some ((i : Int), dfar (rd_T25 L (i : Int)) t a b c d s, true) ∧ impl_NearestShape.l0 k L (b0 : Int) L (L.length : Int) (pre.length : Int) t a b c d s = some ((i : Int), dfar (rd_T25 L (i : Int)) t a b c d s, true) := by
  have hgy : ∀ (i : Nat), i < L.length → gs (rd_T25 L (i : Int)) = true := by
    intro i hi
    unfold rd_T25
    rw [Int.toNat_natCast, List.getD_eq_getElem?_getD, List.getElem?_eq_getElem hi]
    exact List.all_eq_true.1 hg _ (List.getElem_mem hi)
  intro rest
  induction rest with
  | nil =>
    intro pre b0 k h hb hk
    obtain ⟨k, rfl⟩ : ∃ q, k = q + 1 := ⟨k - 1, by omega⟩
    have hpl : pre.length = L.length := by rw [← h]; simp
    have hb1 := hb.1
    have c1 : ¬ (pre.length : Int) < (L.length : Int) := by omega
    have c2 : (0 : Int) ≤ (b0 : Int) := by omega
    have c3 : (b0 : Int) < (L.length : Int) := by omega
    refine ⟨b0, by rw [← hpl]; exact hb, ?_, ?_⟩
    · simp only [spec_NearestShape.l0, c1, if_false]
    · simp only [impl_NearestShape.l0, c1, if_false, c2, c3, if_true, (dfar_eq (hgy b0 (by omega)) hs k (by omega)).2, Option.bind_some]
  | cons x xs ih =>
    intro pre b0 k h hb hk
    obtain ⟨k, rfl⟩ : ∃ q, k = q + 1 := ⟨k - 1, by omega⟩
    rw [List.length_cons] at hk
    have hb1 := hb.1
    have hpl : pre.length < L.length := by rw [← h]; simp
    have c1 : (pre.length : Int) < (L.length : Int) := by omega
    have c2 : (0 : Int) ≤ (pre.length : Int) := by omega
    have c3 : (0 : Int) ≤ (b0 : Int) := by omega
    have c4 : (b0 : Int) < (L.length : Int) := by omega
    have c5 : ¬ (b0 : Int) < 0 := by omega
    have hgx := hgy _ hpl
    have hgy2 := hgy b0 (by omega)
    have hw : wrap64 ((pre.length : Int) + 1) = ((pre ++ [x]).length : Int) := by rw [wr (by omega) (by omega)]; simp
    have hl2 : (pre ++ [x]).length = pre.length + 1 := by simp
    simp only [spec_NearestShape.l0, impl_NearestShape.l0, c1, c2, c3, c4, c5, if_true, if_false, good_at hgx k (by omega), (dfar_eq hgx hs k (by omega)).1, (dfar_eq hgx hs k (by omega)).2, (dfar_eq hgy2 hs k (by omega)).2, Option.bind_some, hw]
    by_cases hlt : dfar (rd_T25 L (pre.length : Int)) t a b c d s < dfar (rd_T25 L (b0 : Int)) t a b c d s
    · simp only [hlt, if_true]
      refine ih (pre ++ [x]) pre.length k (by rw [← h]; simp) ⟨by omega, fun j hj => ?_⟩ (by omega)
      rcases Nat.lt_or_ge j pre.length with h1 | h1
      · have h2 := (hb.2 j h1).1
        exact ⟨by omega, fun _ => by omega⟩
      · obtain rfl : j = pre.length := by omega
        exact ⟨Int.le_refl _, fun h => absurd h (Nat.lt_irrefl _)⟩
    · simp only [hlt, if_false]
      refine ih (pre ++ [x]) b0 k (by rw [← h]; simp) ⟨by omega, fun j hj => ?_⟩ (by omega)
      rcases Nat.lt_or_ge j pre.length with h1 | h1
      · exact hb.2 j h1
      · obtain rfl : j = pre.length := by omega
        exact ⟨by omega, fun h => by omega⟩
/-- What the nearest one is. -/
theorem near_facts (L : List S25) (hL : L.length ≤ 1048576) (t a b c d : Int) (s : Bool) (k : Nat) (hk : L.length + 20 < k) : ∃ (i d' : Int) (ok : Bool), spec_NearestShape.f k L t a b c d s = some (i, d', ok) ∧ impl_NearestShape.f k L t a b c d s = some (i, d', ok) ∧ (ok = true → hshape t a b c d s = true ∧ L.all gs = true ∧ ∃ j : Nat, i = (j : Int) ∧ d' = dfar (rd_T25 L (j : Int)) t a b c d s ∧ First L t a b c d s j L.length) := by
  obtain ⟨k, rfl⟩ : ∃ q, k = q + 1 + 1 := ⟨k - 2, by omega⟩
  unfold spec_NearestShape.f impl_NearestShape.f
  rw [in_some, within_some, hshape_spec t a b c d s (k + 1 + 1) (by omega), hshape_impl, allOf_eq]
  simp only [Option.bind_some]
  cases hn : decide (1 ≤ (L.length : Int) ∧ (L.length : Int) ≤ 20)
  · exact ⟨0, 0, false, rfl, rfl, fun h => by cases h⟩
  cases hs : hshape t a b c d s
  · exact ⟨0, 0, false, rfl, rfl, fun h => by cases h⟩
  have hn := of_decide_eq_true hn
  simp only [if_true, Bool.not_true, spec_NearestShape.j0, impl_NearestShape.j0, Bool.false_eq_true, if_false]
  cases hg : L.all gs
  · exact ⟨0, 0, false, nearest_bad hs L hL L [] _ _ (k + 1) (by simp) hg (by omega), rfl, fun h => by cases h⟩
  · simp only [Bool.not_true, Bool.false_eq_true, if_false]
    cases L with
    | nil => simp at hn
    | cons x xs =>
      have hgx : gs x = true := by rw [List.all_cons, Bool.and_eq_true] at hg; exact hg.1
      have hr : rd_T25 (x :: xs) 0 = x := rfl
      have c1 : (0 : Int) < ((x :: xs).length : Int) := by rw [List.length_cons]; omega
      have c2 : ((-1 : Int)) < 0 := by decide
      have c3 : ¬ dfar x t a b c d s < dfar x t a b c d s := by omega
      have w1 : wrap64 (0 + 1) = 1 := wr (by decide) (by decide)
      obtain ⟨i, h1, h2, h3⟩ := near_l0 hs (x :: xs) hL hg xs [x] 0 k (by simp) ⟨by simp, fun j hj => by
        obtain rfl : j = 0 := by simp at hj; exact hj
        exact ⟨Int.le_refl _, fun h => absurd h (Nat.lt_irrefl _)⟩⟩ (by simp at hk; omega)
      refine ⟨(i : Int), _, true, ?_, ?_, fun _ => by first | exact ⟨rfl, rfl, i, rfl, rfl, h1⟩ | exact ⟨trivial, trivial, i, rfl, rfl, h1⟩⟩
      · simp only [spec_NearestShape.l0, c1, Int.le_refl, if_true, hr, good_at hgx k (by omega), (dfar_eq hgx hs k (by omega)).1, Option.bind_some, c2, w1]
        exact h2
      · simp only [impl_NearestShape.l0, c1, Int.le_refl, if_true, hr, (dfar_eq hgx hs k (by omega)).2, Option.bind_some, c3, if_false, w1]
        exact h3
theorem far_at {x : S25} {t a b c d : Int} {s : Bool} (hx : gs x = true) (hs : hshape t a b c d s = true) (k : Nat) (hk : 6 ≤ k) : impl_ShapeDistance.f k x.f0 x.f1 x.f2 x.f3 x.f4 x.f5 t a b c d s = some (dfar x t a b c d s, true) := by
  unfold impl_ShapeDistance.f
  rw [hshape_impl, hshape_impl, hs, show hshape x.f0 x.f1 x.f2 x.f3 x.f4 x.f5 = true from hx]
  simp only [Option.bind_some, if_true, (dfar_eq hx hs k hk).2]
/-! Draws. -/
def nine : List ByteArray := [⟨#[48, 48, 48, 48, 48]⟩, ⟨#[48, 48, 48, 48, 48, 115]⟩, ⟨#[50, 50, 50, 50, 50]⟩, ⟨#[48, 48, 50, 50, 50]⟩, ⟨#[49, 48, 48, 50, 50]⟩, ⟨#[50, 48, 48, 48, 48]⟩, ⟨#[49, 48, 50, 50, 50]⟩, ⟨#[48, 48, 48, 50, 50, 115]⟩, ⟨#[49, 49, 49, 49, 49]⟩]
theorem parse9 : ∀ x ∈ nine, (spec_shParse.f 20 x).isSome = true := by decide +kernel
theorem shape_some {l : List Int} (hl : ∀ x ∈ l, (Lit.int .u8 x).wf = true) (p q : Int) (h0 : 0 ≤ p) (h1 : p ≤ 800000000000) (k : Nat) (hk : 20 ≤ k) : ∃ (t a b c d : Int) (s : Bool) (p' q' : Int), spec_l1Cur_shape.f k l p q = some (t, a, b, c, d, s, p', q') ∧ p ≤ p' ∧ p' ≤ p + 20 := by
  unfold spec_l1Cur_shape.f
  obtain ⟨v, p1, q1, e1, b1, b2⟩ := one_some hl p q 2 h0 (by omega) (by omega)
  rw [e1, Option.bind_some]
  cases v
  · obtain ⟨x1, p2, q2, e2, -, -, b3, b4⟩ := pick_some hl p1 q1 3 (by omega) (by omega) (by omega)
    obtain ⟨x2, p3, q3, e3, -, -, b5, b6⟩ := pick_some hl p2 q2 3 (by omega) (by omega) (by omega)
    obtain ⟨x3, p4, q4, e4, -, -, b7, b8⟩ := pick_some hl p3 q3 3 (by omega) (by omega) (by omega)
    obtain ⟨x4, p5, q5, e5, -, -, b9, c1⟩ := pick_some hl p4 q4 3 (by omega) (by omega) (by omega)
    obtain ⟨x5, p6, q6, e6, -, -, c2, c3⟩ := pick_some hl p5 q5 3 (by omega) (by omega) (by omega)
    obtain ⟨y, p7, q7, e7, c4, c5⟩ := one_some hl p6 q6 2 (by omega) (by omega) (by omega)
    simp only [Bool.false_eq_true, if_false, e2, e3, e4, e5, e6, e7, Option.bind_some, made k (by omega)]
    exact ⟨_, _, _, _, _, _, p7, q7, rfl, by omega, by omega⟩
  · obtain ⟨x1, p2, q2, e2, i0, i1, b3, b4⟩ := pick_some hl p1 q1 9 (by omega) (by omega) (by omega)
    have e3 : spec_l1Cur_of.f l p1 q1 nine = some (rdOf ByteArray.empty nine x1, p2, q2) := by
      unfold spec_l1Cur_of.f
      rw [show ((nine.length : Nat) : Int) = 9 from rfl, e2, Option.bind_some]
      simp only
      rw [if_pos i0, if_pos i1]
    have hm : rdOf ByteArray.empty nine x1 ∈ nine := by
      have hx : x1.toNat < nine.length := by
        have : nine.length = 9 := rfl
        omega
      unfold rdOf
      rw [List.getD_eq_getElem?_getD, List.getElem?_eq_getElem hx]
      exact List.getElem_mem hx
    obtain ⟨⟨t, a, b, c, d, s, ok⟩, hz⟩ := Option.isSome_iff_exists.1 (parse9 _ hm)
    have hz2 : spec_shParse.f k (rdOf ByteArray.empty nine x1) = some (t, a, b, c, d, s, ok) := at_rounds (g := fun k => spec_shParse.f k (rdOf ByteArray.empty nine x1)) (fun k => spec_shParse.mono _ k) hk hz
    rw [if_pos rfl]
    refine ⟨t, a, b, c, d, s, p2, q2, ?_, by omega, by omega⟩
    show (spec_l1Cur_of.f l p1 q1 nine).bind _ = _
    rw [e3, Option.bind_some]
    simp only
    rw [hz2, Option.bind_some]
theorem any_some {l : List Int} (hl : ∀ x ∈ l, (Lit.int .u8 x).wf = true) (p q : Int) (h0 : 0 ≤ p) (h1 : p ≤ 700000000000) (k : Nat) (hk : 20 ≤ k) : ∃ (t a b c d : Int) (s : Bool) (p' q' : Int), spec_l1Cur_anyShape.f k l p q = some (t, a, b, c, d, s, p', q') ∧ p ≤ p' ∧ p' ≤ p + 30 := by
  unfold spec_l1Cur_anyShape.f
  obtain ⟨t, a, b, c, d, s, p1, q1, e1, b1, b2⟩ := shape_some hl p q h0 (by omega) k hk
  obtain ⟨v, p2, q2, e2, -, -, b3, b4⟩ := pick_some hl p1 q1 40 (by omega) (by omega) (by omega)
  rw [e1, Option.bind_some]
  simp only
  rw [e2, Option.bind_some]
  simp only
  by_cases h0 : v = 0
  · obtain ⟨x, p3, q3, e3, b5, b6⟩ := among_some hl p2 q2 [(-1), 3] (by omega) (by omega) (by simp)
    rw [if_pos h0, e3, Option.bind_some]
    exact ⟨_, _, _, _, _, _, p3, q3, rfl, by omega, by omega⟩
  rw [if_neg h0]
  by_cases h1 : v = 1
  · obtain ⟨x, p3, q3, e3, b5, b6⟩ := among_some hl p2 q2 [(-1), 3, (-9223372036854775808)] (by omega) (by omega) (by simp)
    rw [if_pos h1, e3, Option.bind_some]
    exact ⟨_, _, _, _, _, _, p3, q3, rfl, by omega, by omega⟩
  rw [if_neg h1]
  by_cases h2 : v = 2
  · obtain ⟨x, p3, q3, e3, b5, b6⟩ := among_some hl p2 q2 [(-1), 3] (by omega) (by omega) (by simp)
    rw [if_pos h2, e3, Option.bind_some]
    exact ⟨_, _, _, _, _, _, p3, q3, rfl, by omega, by omega⟩
  rw [if_neg h2]
  by_cases h3 : v = 3
  · obtain ⟨x, p3, q3, e3, -, -, b5, b6⟩ := pick_some hl p2 q2 3 (by omega) (by omega) (by omega)
    obtain ⟨y, p4, q4, e4, -, -, b7, b8⟩ := pick_some hl p3 q3 2 (by omega) (by omega) (by omega)
    rw [if_pos h3, e3, Option.bind_some]
    simp only
    rw [e4, Option.bind_some]
    exact ⟨_, _, _, _, _, _, p4, q4, rfl, by omega, by omega⟩
  rw [if_neg h3]
  exact ⟨_, _, _, _, _, _, p2, q2, rfl, by omega, by omega⟩
theorem setdraw_some {l : List Int} (hl : ∀ x ∈ l, (Lit.int .u8 x).wf = true) (k : Nat) (hk : 20 ≤ k) : ∃ (t a b c d : Int) (s : Bool) (f v : Int), spec_DrawSetFinger.f k l = some (t, a, b, c, d, s, f, v) := by
  unfold spec_DrawSetFinger.f
  obtain ⟨t, a, b, c, d, s, p1, q1, e1, b1, b2⟩ := any_some hl 0 0 (by omega) (by omega) k hk
  obtain ⟨x1, p2, q2, e2, b3, b4⟩ := among_some hl p1 q1 [2, (-1), 5] (by omega) (by omega) (by simp)
  obtain ⟨x2, p3, q3, e3, b5, b6⟩ := among_some hl p2 q2 [0, 1, 2, 3, 4, x1] (by omega) (by omega) (by simp)
  obtain ⟨x3, p4, q4, e4, b7, b8⟩ := among_some hl p3 q3 [1, (-1), 3] (by omega) (by omega) (by simp)
  obtain ⟨x4, p5, q5, e5, b9, c1⟩ := among_some hl p4 q4 [0, 1, 2, x3] (by omega) (by omega) (by simp)
  simp only [e1, e2, e3, e4, e5, Option.bind_some]
  exact ⟨_, _, _, _, _, _, _, _, rfl⟩
theorem oppdraw_some {l : List Int} (hl : ∀ x ∈ l, (Lit.int .u8 x).wf = true) (k : Nat) (hk : 20 ≤ k) : ∃ (t a b c d : Int) (s : Bool), spec_DrawOppositeShape.f k l = some (t, a, b, c, d, s) := by
  unfold spec_DrawOppositeShape.f spec_DrawIsShape.f
  obtain ⟨t, a, b, c, d, s, p1, q1, e1, b1, b2⟩ := any_some hl 0 0 (by omega) (by omega) k hk
  simp only [e1, Option.bind_some]
  exact ⟨_, _, _, _, _, _, rfl⟩
theorem neardraw_j2 {l : List Int} (hl : ∀ x ∈ l, (Lit.int .u8 x).wf = true) (L : List S25) (n p q : Int) (g : Bool) (h0 : 0 ≤ p) (h1 : p ≤ 600000000000) (hn : g = true → 1 ≤ n ∧ n ≤ (L.length : Int)) (k : Nat) (hk : 21 ≤ k) : ∃ (M : List S25) (t a b c d : Int) (s : Bool), spec_DrawNearestShape.j2 k L n g l p q = some (M, t, a, b, c, d, s) ∧ M.length = L.length := by
  obtain ⟨k, rfl⟩ : ∃ q, k = q + 1 := ⟨k - 1, by omega⟩
  rw [spec_DrawNearestShape.j2]
  cases g
  · obtain ⟨t, a, b, c, d, s, p1, q1, e1, b1, b2⟩ := any_some hl p q (by omega) (by omega) k (by omega)
    rw [if_neg Bool.false_ne_true, e1, Option.bind_some]
    exact ⟨_, _, _, _, _, _, _, rfl, rfl⟩
  · obtain ⟨m1, m2⟩ := hn rfl
    obtain ⟨v, p1, q1, e1, i0, i1, b1, b2⟩ := pick_some hl p q n (by omega) (by omega) (by omega)
    obtain ⟨t, a, b, c, d, s, p2, q2, e2, b3, b4⟩ := any_some hl p1 q1 (by omega) (by omega) k (by omega)
    obtain ⟨t', a', b', c', d', s', p3, q3, e3, b5, b6⟩ := any_some hl p2 q2 (by omega) (by omega) k (by omega)
    rw [if_pos rfl, e1, Option.bind_some]
    simp only
    rw [e2, Option.bind_some, if_pos i0, if_pos (by omega)]
    simp only
    rw [e3, Option.bind_some]
    exact ⟨_, _, _, _, _, _, _, rfl, List.length_set⟩
theorem neardraw_l0 {l : List Int} (hl : ∀ x ∈ l, (Lit.int .u8 x).wf = true) (n : Int) (hn : n ≤ 21) : ∀ (m : Nat) (L : List S25) (p q : Int) (k : Nat), (n - (L.length : Int)).toNat = m → 0 ≤ p → p + 50 * (m : Int) ≤ 500000000000 → L.length ≤ 21 → m + 30 ≤ k → ∃ (M : List S25) (t a b c d : Int) (s : Bool), spec_DrawNearestShape.l0 k L n l p q = some (M, t, a, b, c, d, s) ∧ M.length ≤ 21 := by
  intro m
  induction m with
  | zero =>
    intro L p q k hm h0 h1 hL hk
    obtain ⟨k, rfl⟩ : ∃ q, k = q + 1 := ⟨k - 1, by omega⟩
    rw [spec_DrawNearestShape.l0, if_neg (by omega)]
    by_cases hp : n > 0
    · obtain ⟨v, p1, q1, e1, b1, b2⟩ := one_some hl p q 24 h0 (by omega) (by omega)
      obtain ⟨M, t, a, b, c, d, s, h2, h3⟩ := neardraw_j2 hl L n p1 q1 v (by omega) (by omega) (fun _ => ⟨by omega, by omega⟩) k (by omega)
      rw [if_pos hp, e1, Option.bind_some]
      exact ⟨M, t, a, b, c, d, s, h2, by omega⟩
    · obtain ⟨M, t, a, b, c, d, s, h2, h3⟩ := neardraw_j2 hl L n p q false (by omega) (by omega) (fun h => by cases h) k (by omega)
      rw [if_neg hp]
      exact ⟨M, t, a, b, c, d, s, h2, by omega⟩
  | succ m ih =>
    intro L p q k hm h0 h1 hL hk
    obtain ⟨k, rfl⟩ : ∃ q, k = q + 1 := ⟨k - 1, by omega⟩
    obtain ⟨t, a, b, c, d, s, p1, q1, e1, b1, b2⟩ := shape_some hl p q h0 (by omega) k (by omega)
    rw [spec_DrawNearestShape.l0, if_pos (by omega), e1, Option.bind_some]
    simp only
    rw [if_pos (by omega)]
    exact ih _ p1 q1 k (by rw [List.length_append, List.length_singleton]; omega) (by omega) (by omega) (by rw [List.length_append, List.length_singleton]; omega) (by omega)
theorem neardraw_some {l : List Int} (hl : ∀ x ∈ l, (Lit.int .u8 x).wf = true) (k : Nat) (hk : 100 ≤ k) : ∃ (M : List S25) (t a b c d : Int) (s : Bool), spec_DrawNearestShape.f k l = some (M, t, a, b, c, d, s) ∧ M.length ≤ 21 := by
  unfold spec_DrawNearestShape.f
  obtain ⟨v, p1, q1, e1, i0, i1, b1, b2⟩ := pick_some hl 0 0 6 (by omega) (by omega) (by omega)
  obtain ⟨g, p2, q2, e2, b3, b4⟩ := one_some hl p1 q1 12 (by omega) (by omega) (by omega)
  obtain ⟨k, rfl⟩ : ∃ q, k = q + 1 := ⟨k - 1, by omega⟩
  rw [e1, Option.bind_some]
  simp only
  rw [e2, Option.bind_some]
  cases g
  · simp only [Bool.false_eq_true, if_false, spec_DrawNearestShape.j0]
    exact neardraw_l0 hl _ (by unfold wrap64; omega) _ [] p2 q2 k rfl (by omega) (by unfold wrap64; simp; omega) (by simp) (by unfold wrap64; simp; omega)
  · obtain ⟨x, p3, q3, e3, b5, b6⟩ := among_some hl p2 q2 [0, 20, 21] (by omega) (by omega) (by simp)
    have hx : x = 0 ∨ x = 20 ∨ x = 21 := by
      unfold spec_l1Cur_among.f at e3
      obtain ⟨v2, p4, q4, e4, i2, i3, b7, b8⟩ := pick_some hl p2 q2 3 (by omega) (by omega) (by omega)
      rw [show ((([0, 20, 21] : List Int).length : Nat) : Int) = 3 from rfl, e4, Option.bind_some] at e3
      simp only at e3
      rw [if_pos i2, if_pos i3] at e3
      simp only [Option.some.injEq, Prod.mk.injEq] at e3
      rw [← e3.1]
      obtain h | h | h : v2 = 0 ∨ v2 = 1 ∨ v2 = 2 := by omega
      all_goals (subst h; simp [rd])
    simp only [if_true, e3, Option.bind_some, spec_DrawNearestShape.j0]
    exact neardraw_l0 hl x (by omega) _ [] p3 q3 k rfl (by omega) (by simp; omega) (by simp) (by simp; omega)
/-! The law. -/
theorem is6_self (t a b c d : Int) (s g : Bool) : laws_FnFingers.is6 (some (t, a, b, c, d, s, g)) t a b c d s g = true := by
  unfold laws_FnFingers.is6
  simp only [decide_true, Bool.and_self]
theorem set_st {t a b c d : Int} {s : Bool} {f v r1 r2 r3 r4 r5 : Int} {r6 : Bool} (H : SetOk t a b c d s f v r1 r2 r3 r4 r5 r6) : laws_FnFingers.st t a b c d s f v r1 r2 r3 r4 r5 r6 = true := by
  obtain ⟨h1, h2, h3⟩ := H
  unfold laws_FnFingers.st
  rw [hshape_impl, h1, Bool.and_eq_true, Bool.and_eq_true]
  refine ⟨decide_eq_true rfl, ?_, List.all_eq_true.2 fun i hi => ?_⟩
  · cases r6
    · rfl
    · rw [h2 rfl]; rfl
  · obtain ⟨n, rfl, hn⟩ : ∃ n : Nat, i = (n : Int) ∧ n < 5 := by
      simp only [List.mem_cons, List.not_mem_nil, or_false] at hi
      rcases hi with rfl | rfl | rfl | rfl | rfl
      · exact ⟨0, rfl, by decide⟩
      · exact ⟨1, rfl, by decide⟩
      · exact ⟨2, rfl, by decide⟩
      · exact ⟨3, rfl, by decide⟩
      · exact ⟨4, rfl, by decide⟩
    by_cases hf : (n : Int) = f
    · rw [if_pos hf]; exact decide_eq_true ((h3 n hn).1 hf)
    · rw [if_neg hf]; exact decide_eq_true ((h3 n hn).2 hf)
theorem near_nr {t a b c d : Int} {s : Bool} (hs : hshape t a b c d s = true) (L : List S25) (hg : L.all gs = true) (i : Nat) (hf : First L t a b c d s i L.length) (k : Nat) (hk : 6 ≤ k) : laws_FnFingers.nr k L (i : Int) (dfar (rd_T25 L (i : Int)) t a b c d s) t a b c d s = true := by
  unfold laws_FnFingers.nr
  refine List.all_eq_true.2 fun j hj => ?_
  have hlt : j < L.length := List.mem_range.1 hj
  have hgj : gs (rd_T25 L (j : Int)) = true := by
    unfold rd_T25
    rw [Int.toNat_natCast, List.getD_eq_getElem?_getD, List.getElem?_eq_getElem hlt]
    exact List.all_eq_true.1 hg _ (List.getElem_mem hlt)
  obtain ⟨h1, h2⟩ := hf.2 j hlt
  rw [far_at hgj hs k hk]
  simp only [Option.any_some, Bool.true_and, Bool.and_eq_true, Bool.or_eq_true, Bool.not_eq_true', decide_eq_true_eq, decide_eq_false_iff_not]
  refine ⟨h1, ?_, ?_⟩
  · by_cases he : (j : Int) = (i : Int)
    · obtain rfl : j = i := by omega
      exact .inr rfl
    · exact .inl he
  · by_cases he : (j : Int) < (i : Int)
    · have := h2 (by omega)
      exact .inr (by omega)
    · exact .inl he
theorem fingers_true (l0 l1 : List Int) (h0 : ∀ x ∈ l0, (Lit.int .u8 x).wf = true) (h1 : ∀ x ∈ l1, (Lit.int .u8 x).wf = true) : laws_FnFingers.f 1000 l0 l1 = some true := by
  obtain ⟨b, hb⟩ : ∃ b, laws_big.f l0 l1 = some b := by
    unfold laws_big.f
    split
    · exact ⟨_, rfl⟩
    · exact ⟨_, rfl⟩
  unfold laws_FnFingers.f
  rw [hb, Option.bind_some]
  cases b
  · obtain ⟨t, a, b, c, d, s, f, v, e1⟩ := setdraw_some h0 1000 (by omega)
    obtain ⟨r1, r2, r3, r4, r5, r6, ok, e2, e3, hS⟩ := set_facts t a b c d s f v
    obtain ⟨t', a', b', c', d', s', e4⟩ := oppdraw_some h1 1000 (by omega)
    obtain ⟨e, x1, x2⟩ := easy_facts t' a' b' c' d' s' 1000 (by omega)
    have x3 := hshape_impl t' a' b' c' d' s'
    obtain ⟨M, u1, u2, u3, u4, u5, u6, e5, hM⟩ := neardraw_some h1 1000 (by omega)
    obtain ⟨i, nd, g, e6, e7, hN⟩ := near_facts M (by omega) u1 u2 u3 u4 u5 u6 1000 (by omega)
    have hS2 : (!ok || laws_FnFingers.st t a b c d s f v r1 r2 r3 r4 r5 r6) = true := by
      cases ok
      · rfl
      · rw [set_st (hS rfl)]; rfl
    have hN2 : (!g || laws_FnFingers.nr 1000 M i nd u1 u2 u3 u4 u5 u6) = true := by
      cases g
      · rfl
      · obtain ⟨hs, hg, j, rfl, rfl, hf⟩ := hN rfl
        rw [near_nr hs M hg j hf 1000 (by omega)]; rfl
    have y : ∃ (o1 o2 o3 o4 o5 n : Int), impl_OppositeShape.f 1000 t' a' b' c' d' s' = some (o1, o2, o3, o4, o5, false, hshape t' a' b' c' d' s') ∧ spec_OppositeShape.f 1000 t' a' b' c' d' s' = some (o1, o2, o3, o4, o5, false, hshape t' a' b' c' d' s') ∧ impl_OpenFingers.f 1000 t' a' b' c' d' s' = some (n, hshape t' a' b' c' d' s') ∧ spec_OpenFingers.f 1000 t' a' b' c' d' s' = some (n, hshape t' a' b' c' d' s') ∧ (!hshape t' a' b' c' d' s' || laws_FnFingers.op 1000 t' a' b' c' d' o1 o2 o3 o4 o5 n) = true := by
      cases hg : hshape t' a' b' c' d' s'
      · obtain ⟨y1, y2, y3, y4⟩ := opp_bad hg 1000 (by omega)
        exact ⟨0, 0, 0, 0, 0, 0, y1, y2, y3, y4, rfl⟩
      · obtain ⟨o1, o2, o3, o4, o5, n, m, p1, p2, p3, hh⟩ := opp_facts hg
        obtain ⟨y1, y2, y5, y3, y4, y6, y7⟩ := hh 1000 (by omega)
        refine ⟨o1, o2, o3, o4, o5, n, y1, y2, y3, y4, ?_⟩
        unfold laws_FnFingers.op
        rw [y5, y6, y7, is6_self]
        simp only [Option.any_some, Bool.not_true, Bool.false_or, Bool.true_and, decide_true, Bool.not_eq_true', decide_eq_false_iff_not]
        rw [wr (by omega) (by omega)]
        omega
    obtain ⟨o1, o2, o3, o4, o5, n, y1, y2, y3, y4, y5⟩ := y
    rw [if_neg Bool.false_ne_true, e1, Option.bind_some]
    simp only
    rw [e3 1000 (by omega), Option.bind_some, e4, Option.bind_some]
    simp only
    rw [y2, Option.bind_some, y4, Option.bind_some, x1, Option.bind_some, e5, Option.bind_some]
    simp only
    rw [e6, Option.bind_some, e2, is6_self, y1, is6_self, y3, x2, x3, e7]
    simp only [hS2, hN2, y5, decide_true, Bool.and_self, Bool.not_false, if_true]
  · rw [if_pos rfl]
end Go.Proofs.Ytaecjbhenknfkaa.MFnFingers
