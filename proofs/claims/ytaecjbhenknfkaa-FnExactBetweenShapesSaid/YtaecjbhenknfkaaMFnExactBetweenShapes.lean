/- The words that the plain law behind FnExactBetweenShapes needs. -/
import Derived.Test.YtaecjbhenknfkaaFCx1
import Derived.Test.YtaecjbhenknfkaaFCx2
import Derived.Test.YtaecjbhenknfkaaFCx3
import Derived.Test.YtaecjbhenknfkaaFCx4
import Derived.Test.YtaecjbhenknfkaaFCx5
import Derived.Test.YtaecjbhenknfkaaFCx6
import Derived.Test.YtaecjbhenknfkaaFCx7
import Derived.Test.YtaecjbhenknfkaaFCx8
import Derived.Test.YtaecjbhenknfkaaFCx9 -- home: impl_BetweenShapes.f impl_IsShape.f impl_Shape_bends.f impl_Shape_maySpread.f impl_Shape_with.f impl_allWithin.f laws_eqShape.f spec_BetweenShapes.f spec_l1All.f spec_l1In.f spec_shFingers.f spec_shGood.f spec_shMade.f spec_shWide.f
namespace Go.Proofs.Ytaecjbhenknfkaa.MFnExactBetweenShapes
open Go.RowKit Go.Proofs.Ytaecjbhenknfkaa.FC Go.Proofs.YtaecjbhenknfkaaW.PrintWords Go.Proofs.YtaecjbhenknfkaaW.PrintLast Go.Proofs.YtaecjbhenknfkaaW.PrintMore
set_option linter.unusedVariables false

theorem wr {x : Int} (h0 : -4611686018427387904 ≤ x) (h1 : x ≤ 4611686018427387904) : wrap64 x = x := by unfold wrap64; omega
theorem up {i n : Nat} (h : i < n) (hn : n ≤ 4611686018427387903) : wrap64 ((i : Int) + 1) = ((i + 1 : Nat) : Int) := by rw [wr (by omega) (by omega)]; rfl
theorem rd_nat (l : List Int) (i : Nat) : rd l (i : Int) = l.getD i 0 := rfl

theorem in_some (a b c : Int) : spec_l1In.f a b c = some (decide (b ≤ a ∧ a ≤ c)) := by
  unfold spec_l1In.f
  by_cases h : b ≤ a <;> simp [h]
/-- Something holds for the d places from i on. -/
def from_ (p : Nat → Bool) (i d : Nat) : Bool := (List.range' i d).all p
theorem from_zero (p : Nat → Bool) (i : Nat) : from_ p i 0 = true := rfl
theorem from_succ (p : Nat → Bool) (i d : Nat) : from_ p i (d + 1) = (p i && from_ p (i + 1) d) := by
  unfold from_; rw [List.range'_succ]; rfl
theorem from_iff (p : Nat → Bool) (n : Nat) : from_ p 0 n = true ↔ ∀ i, i < n → p i = true := by
  unfold from_
  rw [List.all_eq_true]
  exact ⟨fun h i hi => h i (by rw [List.mem_range']; exact ⟨i, hi, by omega⟩), fun h i hi => h i (by rw [List.mem_range'] at hi; obtain ⟨j, hj, rfl⟩ := hi; omega)⟩
theorem from_rd (p : Int → Bool) (l : List Int) : from_ (fun i => p (rd l (i : Int))) 0 l.length = l.all p := by
  rw [Bool.eq_iff_iff, from_iff, List.all_eq_true]
  constructor
  · intro h x hx
    obtain ⟨i, hi, rfl⟩ := List.getElem_of_mem hx
    have := h i hi
    rwa [rd_nat, List.getD_eq_getElem?_getD, List.getElem?_eq_getElem hi] at this
  · intro h i hi
    rw [rd_nat, List.getD_eq_getElem?_getD, List.getElem?_eq_getElem hi]
    exact h _ (List.getElem_mem hi)
theorem l1All_l0 (l : List Int) (lo hi : Int) (hn : l.length ≤ 4611686018427387903) : ∀ (d k i : Nat), i + d = l.length → d < k →
    spec_l1All.l0 k lo hi l (l.length : Int) (i : Int) = some (from_ (fun j => decide (lo ≤ rd l (j : Int) ∧ rd l (j : Int) ≤ hi)) i d) := by
  intro d
  induction d with
  | zero =>
    intro k i hi hk
    obtain ⟨k, rfl⟩ : ∃ q, k = q + 1 := ⟨k - 1, by omega⟩
    simp only [spec_l1All.l0]
    rw [if_neg (by omega), from_zero]
  | succ d ih =>
    intro k i hi hk
    obtain ⟨k, rfl⟩ : ∃ q, k = q + 1 := ⟨k - 1, by omega⟩
    simp only [spec_l1All.l0]
    rw [if_pos (by omega), if_pos (by omega), if_pos (by omega), in_some, from_succ, up (n := l.length) (by omega) hn, ih k (i + 1) (by omega) (by omega)]
    simp only [Option.bind_some]
    cases decide (lo ≤ rd l (i : Int) ∧ rd l (i : Int) ≤ _) <;> rfl
theorem l1All_eq (l : List Int) (lo hi : Int) (k : Nat) (hn : l.length ≤ 1048576) (hk : l.length < k) : spec_l1All.f k l lo hi = some (l.all fun x => decide (lo ≤ x ∧ x ≤ hi)) := by
  unfold spec_l1All.f
  rw [← from_rd]
  exact l1All_l0 l lo hi (by omega) l.length k 0 (by omega) hk
theorem allWithin_eq (l : List Int) (lo hi : Int) : impl_allWithin.f l lo hi = some (l.all fun x => decide (lo ≤ x ∧ x ≤ hi)) := by
  unfold impl_allWithin.f
  rw [List.not_any_eq_all_not]
  simp
/-- May these fingers be spread? -/
def wide (a b c d : Int) : Bool := (decide (a = 0) && decide (b = 0)) || ((decide (b = 0) && decide (c = 0)) || (decide (c = 0) && decide (d = 0)))
theorem wide_spec (t a b c d : Int) (s : Bool) (k : Nat) (hk : 5 < k) : spec_shWide.f k t a b c d s = some (wide a b c d) := by
  refine at_rounds (g := fun k => spec_shWide.f k t a b c d s) (fun k => spec_shWide.mono _ _ _ _ _ _ k) (k := 6) (by omega) ?_
  unfold spec_shWide.f spec_shFingers.f wide
  simp only [Option.bind_some]
  have w0 : wrap64 0 = 0 := wr (by decide) (by decide)
  have w1 : wrap64 1 = 1 := wr (by decide) (by decide)
  have w2 : wrap64 2 = 2 := wr (by decide) (by decide)
  have w3 : wrap64 3 = 3 := wr (by decide) (by decide)
  have w4 : wrap64 4 = 4 := wr (by decide) (by decide)
  have r0 : ∀ x y z u : Int, rd [x, y, z, u] 0 = x := fun _ _ _ _ => rfl
  have r1 : ∀ x y z u : Int, rd [x, y, z, u] 1 = y := fun _ _ _ _ => rfl
  have r2 : ∀ x y z u : Int, rd [x, y, z, u] 2 = z := fun _ _ _ _ => rfl
  have r3 : ∀ x y z u : Int, rd [x, y, z, u] 3 = u := fun _ _ _ _ => rfl
  by_cases ha : a = 0 <;> by_cases hb : b = 0 <;> by_cases hc : c = 0 <;> by_cases hd : d = 0 <;> simp [spec_shWide.l0, w0, w1, w2, w3, w4, r0, r1, r2, r3, ha, hb, hc, hd]
theorem wide_impl (t a b c d : Int) (s : Bool) : impl_Shape_maySpread.f t a b c d s = some (wide a b c d) := by
  unfold impl_Shape_maySpread.f wide
  by_cases ha : a = 0 <;> by_cases hb : b = 0 <;> by_cases hc : c = 0 <;> by_cases hd : d = 0 <;> simp [ha, hb, hc, hd]
/-- Is this a shape? -/
def hshape (t a b c d : Int) (s : Bool) : Bool := decide (0 ≤ t ∧ t ≤ 2) && (([a, b, c, d].all fun x => decide (0 ≤ x ∧ x ≤ 2)) && (!s || wide a b c d))
theorem hshape_spec (t a b c d : Int) (s : Bool) (k : Nat) (hk : 5 < k) : spec_shGood.f k t a b c d s = some (hshape t a b c d s) := by
  unfold spec_shGood.f hshape
  rw [in_some]
  simp only [Option.bind_some, spec_shFingers.f]
  rw [l1All_eq [a, b, c, d] 0 2 k (by simp) (by simp; omega), wide_spec t a b c d s k hk]
  simp only [Option.bind_some]
  generalize ([a, b, c, d].all fun x => decide (0 ≤ x ∧ x ≤ 2)) = q
  cases decide (0 ≤ t ∧ t ≤ 2) <;> cases q <;> cases s <;> simp
theorem hshape_impl (t a b c d : Int) (s : Bool) : impl_IsShape.f t a b c d s = some (hshape t a b c d s) := by
  unfold impl_IsShape.f hshape impl_Shape_bends.f
  simp only [Option.bind_some]
  rw [if_pos (by simp), allWithin_eq, wide_impl]
  simp only [Option.bind_some, List.cons_append, List.nil_append, List.all_cons (a := t)]
  generalize ([a, b, c, d].all fun x => decide (0 ≤ x ∧ x ≤ 2)) = q
  cases decide (0 ≤ t ∧ t ≤ 2) <;> cases q <;> cases s <;> simp
theorem w64_1 : wrap64 1 = 1 := wr (by decide) (by decide)
theorem w64_2 : wrap64 2 = 2 := wr (by decide) (by decide)
theorem w64_3 : wrap64 3 = 3 := wr (by decide) (by decide)
theorem w64_4 : wrap64 4 = 4 := wr (by decide) (by decide)
theorem rd4_0 (x y z u : Int) : rd [x, y, z, u] 0 = x := rfl
theorem rd4_1 (x y z u : Int) : rd [x, y, z, u] 1 = y := rfl
theorem rd4_2 (x y z u : Int) : rd [x, y, z, u] 2 = z := rfl
theorem rd4_3 (x y z u : Int) : rd [x, y, z, u] 3 = u := rfl
theorem made (k : Nat) (hk : 5 < k) (t a b c d : Int) (s : Bool) : spec_shMade.f k t [a, b, c, d] s = some (t, a, b, c, d, s && wide a b c d) := by
  unfold spec_shMade.f
  rw [if_pos (by simp), if_pos (by simp), if_pos (by simp), if_pos (by simp), rd4_0, rd4_1, rd4_2, rd4_3, wide_spec _ _ _ _ _ _ _ hk]
  cases s <;> simp
theorem with1 (t a b c d : Int) (s : Bool) (v : Int) : impl_Shape_with.f t a b c d s 1 v = some (t, v, b, c, d, s && wide v b c d) := by
  unfold impl_Shape_with.f
  rw [if_neg (by decide), if_pos rfl, wide_impl]
  cases s <;> simp
theorem with2 (t a b c d : Int) (s : Bool) (v : Int) : impl_Shape_with.f t a b c d s 2 v = some (t, a, v, c, d, s && wide a v c d) := by
  unfold impl_Shape_with.f
  rw [if_neg (by decide), if_neg (by decide), if_pos rfl, wide_impl]
  cases s <;> simp
theorem with3 (t a b c d : Int) (s : Bool) (v : Int) : impl_Shape_with.f t a b c d s 3 v = some (t, a, b, v, d, s && wide a b v d) := by
  unfold impl_Shape_with.f
  rw [if_neg (by decide), if_neg (by decide), if_neg (by decide), if_pos rfl, wide_impl]
  cases s <;> simp
theorem with4 (t a b c d : Int) (s : Bool) (v : Int) : impl_Shape_with.f t a b c d s 4 v = some (t, a, b, c, v, s && wide a b c v) := by
  unfold impl_Shape_with.f
  rw [if_neg (by decide), if_neg (by decide), if_neg (by decide), if_neg (by decide), wide_impl]
  cases s <;> simp
theorem eq_shape (t a b c d : Int) (s : Bool) : laws_eqShape.f t a b c d s t a b c d s = some true := by
  unfold laws_eqShape.f
  simp
/-- The mean. -/
def mean (x y : Int) : Int := wrap64 (Int.tdiv (wrap64 (x + y)) 2)
theorem mean_is (x y : Int) : wrap64 (Int.tdiv (wrap64 (x + y)) 2) = mean x y := rfl
theorem btw_spec (t a b c d : Int) (s : Bool) (t2 a2 b2 c2 d2 : Int) (s2 : Bool) : spec_BetweenShapes.l0 20 [] [a, b, c, d] 4 0 t a b c d s t2 a2 b2 c2 d2 s2 = some (t, mean a a2, mean b b2, mean c c2, mean d d2, false, true) := by
  simp [spec_BetweenShapes.l0, spec_shFingers.f, w64_1, w64_2, w64_3, w64_4, rd4_0, rd4_1, rd4_2, rd4_3, mean_is, made 15 (by omega)]
theorem btw_impl (t a b c d : Int) (t2 a2 b2 c2 d2 : Int) (s2 : Bool) : impl_BetweenShapes.l0 20 [a, b, c, d] 4 0 t2 a2 b2 c2 d2 s2 t 0 0 0 0 false = some (t, mean a a2, mean b b2, mean c c2, mean d d2, false, true) := by
  simp [impl_BetweenShapes.l0, impl_Shape_bends.f, w64_1, w64_2, w64_3, w64_4, rd4_0, rd4_1, rd4_2, rd4_3, mean_is, with1, with2, with3, with4]
/-- Both tell the same shape between two. -/
theorem btw_same (t a b c d : Int) (s : Bool) (t2 a2 b2 c2 d2 : Int) (s2 : Bool) : ∃ (r1 r2 r3 r4 r5 : Int) (r6 q : Bool), spec_BetweenShapes.f 101 t a b c d s t2 a2 b2 c2 d2 s2 = some (r1, r2, r3, r4, r5, r6, q) ∧ impl_BetweenShapes.f 101 t a b c d s t2 a2 b2 c2 d2 s2 = some (r1, r2, r3, r4, r5, r6, q) := by
  have e1 := at_rounds (g := fun k => spec_BetweenShapes.l0 k [] [a, b, c, d] 4 0 t a b c d s t2 a2 b2 c2 d2 s2) (fun k => (spec_BetweenShapes.mono_l k).2 _ _ _ _ _ _ _ _ _ _ _ _ _ _ _ _) (show 20 ≤ 100 by omega) (btw_spec t a b c d s t2 a2 b2 c2 d2 s2)
  have e2 := at_rounds (g := fun k => impl_BetweenShapes.l0 k [a, b, c, d] 4 0 t2 a2 b2 c2 d2 s2 t 0 0 0 0 false) (fun k => (impl_BetweenShapes.mono_l k).2 _ _ _ _ _ _ _ _ _ _ _ _ _ _ _) (show 20 ≤ 100 by omega) (btw_impl t a b c d t2 a2 b2 c2 d2 s2)
  rw [spec_BetweenShapes.f, impl_BetweenShapes.f, hshape_spec t a b c d s _ (by omega), hshape_impl, Option.bind_some, Option.bind_some, hshape_spec t2 a2 b2 c2 d2 s2 _ (by omega), hshape_impl]
  cases hg : hshape t a b c d s
  · rw [if_neg (by decide), if_neg (by decide), spec_BetweenShapes.j0, impl_BetweenShapes.j0, if_pos rfl, if_pos rfl]
    exact ⟨_, _, _, _, _, _, _, rfl, rfl⟩
  rw [if_pos rfl, if_pos rfl, Option.bind_some, Option.bind_some, spec_BetweenShapes.j0, impl_BetweenShapes.j0]
  cases hg2 : hshape t2 a2 b2 c2 d2 s2
  · rw [if_pos (show (!false) = true from rfl), if_pos (show (!false) = true from rfl)]
    exact ⟨_, _, _, _, _, _, _, rfl, rfl⟩
  rw [if_neg (by decide), if_neg (by decide), spec_shFingers.f, impl_Shape_bends.f, Option.bind_some, Option.bind_some, show (([a, b, c, d] : List Int).length : Int) = 4 from rfl, e1, e2]
  exact ⟨_, _, _, _, _, _, _, rfl, rfl⟩
end Go.Proofs.Ytaecjbhenknfkaa.MFnExactBetweenShapes
