/- The words that the plain law behind FnExactNearestShape needs. -/
import Derived.Test.YtaecjbhenknfkaaFAx2
import Derived.Test.YtaecjbhenknfkaaFAx3
import Derived.Test.YtaecjbhenknfkaaFAx4
import Derived.Test.YtaecjbhenknfkaaFAx5
import Derived.Test.YtaecjbhenknfkaaFAx7
import Derived.Test.YtaecjbhenknfkaaFAx9
import Derived.Test.YtaecjbhenknfkaaFAx12
import Derived.Test.YtaecjbhenknfkaaFAx14
import Derived.Test.YtaecjbhenknfkaaFAx21
import Derived.Test.YtaecjbhenknfkaaFAx28
import Derived.Test.YtaecjbhenknfkaaFAx29
import Derived.Test.YtaecjbhenknfkaaFAx30
import Derived.Test.YtaecjbhenknfkaaFAx31 -- home: impl_IsShape.f impl_NearestShape.f impl_Shape_bends.f impl_Shape_distance.f impl_Shape_maySpread.f impl_allOf_Shape.f impl_allWithin.f impl_distance.f impl_within.f laws_eqShape.f laws_eqShapeS.f laws_toShape.f laws_toShapeS.f spec_NearestShape.f spec_l1Abs.f spec_l1All.f spec_l1In.f spec_l1Most.f spec_shFar.f spec_shFingers.f spec_shGood.f spec_shWide.f
namespace Go.Proofs.Ytaecjbhenknfkaa.MFnExactNearestShape
open Go.RowKit Go.Proofs.Ytaecjbhenknfkaa.FA Go.Proofs.YtaecjbhenknfkaaW.PrintWords Go.Proofs.YtaecjbhenknfkaaW.PrintLast Go.Proofs.YtaecjbhenknfkaaW.PrintMore
set_option linter.unusedVariables false

theorem wr {x : Int} (h0 : -4611686018427387904 ≤ x) (h1 : x ≤ 4611686018427387904) : wrap64 x = x := by unfold wrap64; omega
theorem up {i n : Nat} (h : i < n) (hn : n ≤ 4611686018427387903) : wrap64 ((i : Int) + 1) = ((i + 1 : Nat) : Int) := by rw [wr (by omega) (by omega)]; rfl
theorem rd_nat (l : List Int) (i : Nat) : rd l (i : Int) = l.getD i 0 := rfl

theorem in_some (a b c : Int) : spec_l1In.f a b c = some (decide (b ≤ a ∧ a ≤ c)) := by
  unfold spec_l1In.f
  by_cases h : b ≤ a <;> simp [h]
theorem within_some (a b c : Int) : impl_within.f a b c = some (decide (b ≤ a ∧ a ≤ c)) := by
  unfold impl_within.f
  by_cases h : b ≤ a <;> simp [h]
/-- Something holds for the d places from i on. -/
def from_ (p : Nat → Bool) (i d : Nat) : Bool := (List.range' i d).all p
theorem from_zero (p : Nat → Bool) (i : Nat) : from_ p i 0 = true := rfl
theorem from_succ (p : Nat → Bool) (i d : Nat) : from_ p i (d + 1) = (p i && from_ p (i + 1) d) := by
  unfold from_; rw [List.range'_succ]; rfl
theorem from_iff (p : Nat → Bool) (n : Nat) : from_ p 0 n = true ↔ ∀ i, i < n → p i = true := by
  unfold from_
  rw [List.all_eq_true]
  exact ⟨fun h i hi => h i (by rw [List.mem_range']; exact ⟨i, hi, by omega⟩), fun h i hi => h i (by rw [List.mem_range'] at hi; obtain ⟨j, hj, rfl⟩ := hi; omega)⟩
theorem from_rd (p : Int → Bool) (l : List Int) : from_ (fun i => p (rd l (i : Int))) 0 l.length = l.all p := by
  rw [Bool.eq_iff_iff, from_iff, List.all_eq_true]
  constructor
  · intro h x hx
    obtain ⟨i, hi, rfl⟩ := List.getElem_of_mem hx
    have := h i hi
    rwa [rd_nat, List.getD_eq_getElem?_getD, List.getElem?_eq_getElem hi] at this
  · intro h i hi
    rw [rd_nat, List.getD_eq_getElem?_getD, List.getElem?_eq_getElem hi]
    exact h _ (List.getElem_mem hi)
theorem l1All_l0 (l : List Int) (lo hi : Int) (hn : l.length ≤ 4611686018427387903) : ∀ (d k i : Nat), i + d = l.length → d < k →
    spec_l1All.l0 k lo hi l (l.length : Int) (i : Int) = some (from_ (fun j => decide (lo ≤ rd l (j : Int) ∧ rd l (j : Int) ≤ hi)) i d) := by
  intro d
  induction d with
  | zero =>
    intro k i hi hk
    obtain ⟨k, rfl⟩ : ∃ q, k = q + 1 := ⟨k - 1, by omega⟩
    simp only [spec_l1All.l0]
    rw [if_neg (by omega), from_zero]
  | succ d ih =>
    intro k i hi hk
    obtain ⟨k, rfl⟩ : ∃ q, k = q + 1 := ⟨k - 1, by omega⟩
    simp only [spec_l1All.l0]
    rw [if_pos (by omega), if_pos (by omega), if_pos (by omega), in_some, from_succ, up (n := l.length) (by omega) hn, ih k (i + 1) (by omega) (by omega)]
    simp only [Option.bind_some]
    cases decide (lo ≤ rd l (i : Int) ∧ rd l (i : Int) ≤ _) <;> rfl
theorem l1All_eq (l : List Int) (lo hi : Int) (k : Nat) (hn : l.length ≤ 1048576) (hk : l.length < k) : spec_l1All.f k l lo hi = some (l.all fun x => decide (lo ≤ x ∧ x ≤ hi)) := by
  unfold spec_l1All.f
  rw [← from_rd]
  exact l1All_l0 l lo hi (by omega) l.length k 0 (by omega) hk
theorem allWithin_eq (l : List Int) (lo hi : Int) : impl_allWithin.f l lo hi = some (l.all fun x => decide (lo ≤ x ∧ x ≤ hi)) := by
  unfold impl_allWithin.f
  rw [List.not_any_eq_all_not]
  simp
/-- May these fingers be spread? -/
def wide (a b c d : Int) : Bool := (decide (a = 0) && decide (b = 0)) || ((decide (b = 0) && decide (c = 0)) || (decide (c = 0) && decide (d = 0)))
theorem wide_spec (t a b c d : Int) (s : Bool) (k : Nat) (hk : 5 < k) : spec_shWide.f k t a b c d s = some (wide a b c d) := by
  refine at_rounds (g := fun k => spec_shWide.f k t a b c d s) (fun k => spec_shWide.mono _ _ _ _ _ _ k) (k := 6) (by omega) ?_
  unfold spec_shWide.f spec_shFingers.f wide
  simp only [Option.bind_some]
  have w0 : wrap64 0 = 0 := wr (by decide) (by decide)
  have w1 : wrap64 1 = 1 := wr (by decide) (by decide)
  have w2 : wrap64 2 = 2 := wr (by decide) (by decide)
  have w3 : wrap64 3 = 3 := wr (by decide) (by decide)
  have w4 : wrap64 4 = 4 := wr (by decide) (by decide)
  have r0 : ∀ x y z u : Int, rd [x, y, z, u] 0 = x := fun _ _ _ _ => rfl
  have r1 : ∀ x y z u : Int, rd [x, y, z, u] 1 = y := fun _ _ _ _ => rfl
  have r2 : ∀ x y z u : Int, rd [x, y, z, u] 2 = z := fun _ _ _ _ => rfl
  have r3 : ∀ x y z u : Int, rd [x, y, z, u] 3 = u := fun _ _ _ _ => rfl
  by_cases ha : a = 0 <;> by_cases hb : b = 0 <;> by_cases hc : c = 0 <;> by_cases hd : d = 0 <;> simp [spec_shWide.l0, w0, w1, w2, w3, w4, r0, r1, r2, r3, ha, hb, hc, hd]
theorem wide_impl (t a b c d : Int) (s : Bool) : impl_Shape_maySpread.f t a b c d s = some (wide a b c d) := by
  unfold impl_Shape_maySpread.f wide
  by_cases ha : a = 0 <;> by_cases hb : b = 0 <;> by_cases hc : c = 0 <;> by_cases hd : d = 0 <;> simp [ha, hb, hc, hd]
/-- Is this a shape? -/
def hshape (t a b c d : Int) (s : Bool) : Bool := decide (0 ≤ t ∧ t ≤ 2) && (([a, b, c, d].all fun x => decide (0 ≤ x ∧ x ≤ 2)) && (!s || wide a b c d))
theorem hshape_spec (t a b c d : Int) (s : Bool) (k : Nat) (hk : 5 < k) : spec_shGood.f k t a b c d s = some (hshape t a b c d s) := by
  unfold spec_shGood.f hshape
  rw [in_some]
  simp only [Option.bind_some, spec_shFingers.f]
  rw [l1All_eq [a, b, c, d] 0 2 k (by simp) (by simp; omega), wide_spec t a b c d s k hk]
  simp only [Option.bind_some]
  generalize ([a, b, c, d].all fun x => decide (0 ≤ x ∧ x ≤ 2)) = q
  cases decide (0 ≤ t ∧ t ≤ 2) <;> cases q <;> cases s <;> simp
theorem hshape_impl (t a b c d : Int) (s : Bool) : impl_IsShape.f t a b c d s = some (hshape t a b c d s) := by
  unfold impl_IsShape.f hshape impl_Shape_bends.f
  simp only [Option.bind_some]
  rw [if_pos (by simp), allWithin_eq, wide_impl]
  simp only [Option.bind_some, List.cons_append, List.nil_append, List.all_cons (a := t)]
  generalize ([a, b, c, d].all fun x => decide (0 ≤ x ∧ x ≤ 2)) = q
  cases decide (0 ≤ t ∧ t ≤ 2) <;> cases q <;> cases s <;> simp
theorem w64_1 : wrap64 1 = 1 := wr (by decide) (by decide)
theorem w64_2 : wrap64 2 = 2 := wr (by decide) (by decide)
theorem w64_3 : wrap64 3 = 3 := wr (by decide) (by decide)
theorem w64_4 : wrap64 4 = 4 := wr (by decide) (by decide)
theorem rd4_0 (x y z u : Int) : rd [x, y, z, u] 0 = x := rfl
theorem rd4_1 (x y z u : Int) : rd [x, y, z, u] 1 = y := rfl
theorem rd4_2 (x y z u : Int) : rd [x, y, z, u] 2 = z := rfl
theorem rd4_3 (x y z u : Int) : rd [x, y, z, u] 3 = u := rfl
theorem hshape_iff {t a b c d : Int} {s : Bool} : hshape t a b c d s = true ↔ (0 ≤ t ∧ t ≤ 2) ∧ (0 ≤ a ∧ a ≤ 2) ∧ (0 ≤ b ∧ b ≤ 2) ∧ (0 ≤ c ∧ c ≤ 2) ∧ (0 ≤ d ∧ d ≤ 2) ∧ (s = true → wide a b c d = true) := by
  unfold hshape
  cases s <;> simp [and_assoc]
theorem most_some (a b : Int) : spec_l1Most.f a b = some (mx a b) := by
  unfold spec_l1Most.f mx
  by_cases h : a > b
  · rw [if_pos h, if_neg (by omega)]
  · rw [if_neg h]
    by_cases h2 : a < b
    · rw [if_pos h2]
    · rw [if_neg h2]; congr 1; omega
/-- The distance of two numbers. -/
def dist (a b : Int) : Int := mx (a - b) (b - a)
theorem dist_impl {a b : Int} (ha : 0 ≤ a ∧ a ≤ 2) (hb : 0 ≤ b ∧ b ≤ 2) : impl_distance.f a b = some (dist a b) := by
  unfold impl_distance.f dist
  rw [wr (by omega) (by omega), wr (by omega) (by omega)]
theorem dist_spec {a b : Int} (ha : 0 ≤ a ∧ a ≤ 2) (hb : 0 ≤ b ∧ b ≤ 2) : spec_l1Abs.f (wrap64 (a - b)) = some (dist a b) := by
  unfold spec_l1Abs.f dist
  rw [wr (x := a - b) (by omega) (by omega), wr (by omega) (by omega), most_some]
  simp only [Option.bind_some]
  congr 2; omega
/-- Both tell the same distance of two shapes. -/
theorem far_same6 {t a b c d : Int} {s : Bool} {t2 a2 b2 c2 d2 : Int} {s2 : Bool} (h : hshape t a b c d s = true) (h2 : hshape t2 a2 b2 c2 d2 s2 = true) :
    ∃ z, spec_shFar.f 6 t a b c d s t2 a2 b2 c2 d2 s2 = some z ∧ impl_Shape_distance.f 6 t a b c d s t2 a2 b2 c2 d2 s2 = some z := by
  obtain ⟨-, ha, hb, hc, hd, -⟩ := hshape_iff.1 h
  obtain ⟨-, ga, gb, gc, gd, -⟩ := hshape_iff.1 h2
  unfold spec_shFar.f impl_Shape_distance.f spec_shFingers.f impl_Shape_bends.f
  have x1 := dist_spec ha ga
  have x2 := dist_spec hb gb
  have x3 := dist_spec hc gc
  have x4 := dist_spec hd gd
  have y1 := dist_impl ha ga
  have y2 := dist_impl hb gb
  have y3 := dist_impl hc gc
  have y4 := dist_impl hd gd
  simp [spec_shFar.l0, impl_Shape_distance.l0, impl_Shape_bends.f, w64_1, w64_2, w64_3, w64_4, rd4_0, rd4_1, rd4_2, rd4_3, x1, x2, x3, x4, y1, y2, y3, y4]
  split <;> split <;> exact ⟨_, rfl⟩
theorem far_same {t a b c d : Int} {s : Bool} {t2 a2 b2 c2 d2 : Int} {s2 : Bool} (h : hshape t a b c d s = true) (h2 : hshape t2 a2 b2 c2 d2 s2 = true) :
    ∃ z, ∀ k, 6 ≤ k → spec_shFar.f k t a b c d s t2 a2 b2 c2 d2 s2 = some z ∧ impl_Shape_distance.f k t a b c d s t2 a2 b2 c2 d2 s2 = some z := by
  obtain ⟨z, h1, h3⟩ := far_same6 h h2
  exact ⟨z, fun k hk => ⟨at_rounds (g := fun k => spec_shFar.f k t a b c d s t2 a2 b2 c2 d2 s2) (fun k => spec_shFar.mono _ _ _ _ _ _ _ _ _ _ _ _ k) hk h1, at_rounds (g := fun k => impl_Shape_distance.f k t a b c d s t2 a2 b2 c2 d2 s2) (fun k => impl_Shape_distance.mono _ _ _ _ _ _ _ _ _ _ _ _ k) hk h3⟩⟩
/-- Is this one a shape? -/
def gs (x : S25) : Bool := hshape x.f0 x.f1 x.f2 x.f3 x.f4 x.f5
def cvs (x : S23) : S25 := ⟨x.f0, x.f1, x.f2, x.f3, x.f4, x.f5⟩
theorem rdS (pre : List S25) (x : S25) (rest : List S25) : rd_T25 (pre ++ x :: rest) (pre.length : Int) = x := by
  unfold rd_T25; simp
theorem rdS23 (pre : List S23) (x : S23) (rest : List S23) : rd_T23 (pre ++ x :: rest) (pre.length : Int) = x := by
  unfold rd_T23; simp
theorem toShapeS_l0 (L : List S23) (hL : L.length ≤ 1048576) : ∀ (rest pre : List S23) (k : Nat), pre ++ rest = L → rest.length < k →
    laws_toShapeS.l0 k L (pre.map cvs ++ List.replicate rest.length z25) (pre.length : Int) = some (L.map cvs) := by
  intro rest
  induction rest with
  | nil =>
    intro pre k h hk
    obtain ⟨k, rfl⟩ : ∃ q, k = q + 1 := ⟨k - 1, by omega⟩
    have c1 : ¬ (pre.length : Int) < (L.length : Int) := by rw [← h]; simp
    simp only [laws_toShapeS.l0, c1, if_false]
    rw [← h]; simp
  | cons x xs ih =>
    intro pre k h hk
    obtain ⟨k, rfl⟩ : ∃ q, k = q + 1 := ⟨k - 1, by omega⟩
    rw [List.length_cons] at hk
    have hpl : pre.length < L.length := by rw [← h]; simp
    have c1 : (pre.length : Int) < (L.length : Int) := by omega
    have c2 : (0 : Int) ≤ (pre.length : Int) := by omega
    have hr : rd_T23 L (pre.length : Int) = x := by rw [← h]; exact rdS23 pre x xs
    have hl : (pre.map cvs ++ List.replicate (xs.length + 1) z25).length = L.length := by rw [← h]; simp
    have c3 : (pre.length : Int) < ((pre.map cvs ++ List.replicate (xs.length + 1) z25).length : Int) := by rw [hl]; exact c1
    have hw : wrap64 ((pre.length : Int) + 1) = ((pre ++ [x]).length : Int) := by rw [wr (by omega) (by omega)]; simp
    have hs : (pre.map cvs ++ List.replicate (xs.length + 1) z25).set (pre.length : Int).toNat (cvs x) = (pre ++ [x]).map cvs ++ List.replicate xs.length z25 := by
      rw [Int.toNat_natCast, List.set_append_right _ _ (by simp)]
      simp [List.replicate_succ]
    simp only [laws_toShapeS.l0, List.length_cons, c1, c2, c3, if_true, hr, laws_toShape.f, Option.bind_some, hw]
    rw [show (⟨x.f0, x.f1, x.f2, x.f3, x.f4, x.f5⟩ : S25) = cvs x from rfl, hs]
    exact ih (pre ++ [x]) k (by rw [← h]; simp) (by omega)
theorem toShapeS_eq (L : List S23) (k : Nat) (hL : L.length ≤ 1048576) (hk : L.length < k) : laws_toShapeS.f k L = some (L.map cvs) := by
  unfold laws_toShapeS.f
  rw [if_pos (by omega), if_pos (by omega), Int.toNat_natCast]
  have h := toShapeS_l0 L hL L [] k (by simp) hk
  simpa using h
theorem eqShape_self (a b c d e : Int) (s : Bool) : laws_eqShape.f a b c d e s a b c d e s = some true := by
  unfold laws_eqShape.f; simp
theorem eqShapeS_l0 (l : List S25) (hn : l.length ≤ 4611686018427387903) : ∀ (d k i : Nat), i + d = l.length → d < k → laws_eqShapeS.l0 k l l (i : Int) = some true := by
  intro d
  induction d with
  | zero =>
    intro k i hi hk
    obtain ⟨k, rfl⟩ : ∃ q, k = q + 1 := ⟨k - 1, by omega⟩
    have c1 : ¬ (i : Int) < (l.length : Int) := by omega
    simp only [laws_eqShapeS.l0, c1, if_false]
  | succ d ih =>
    intro k i hi hk
    obtain ⟨k, rfl⟩ : ∃ q, k = q + 1 := ⟨k - 1, by omega⟩
    have c1 : (i : Int) < (l.length : Int) := by omega
    have c2 : (0 : Int) ≤ (i : Int) := by omega
    simp only [laws_eqShapeS.l0, c1, c2, if_true, eqShape_self, Option.bind_some, up (n := l.length) (show i < l.length by omega) hn]
    exact ih k (i + 1) (by omega) (by omega)
theorem eqShapeS_self (l : List S25) (k : Nat) (hn : l.length ≤ 1048576) (hk : l.length < k) : laws_eqShapeS.f k l l = some true := by
  unfold laws_eqShapeS.f
  rw [if_pos rfl]
  exact eqShapeS_l0 l (by omega) l.length k 0 (by omega) hk
theorem allOf_eq (l : List S25) : impl_allOf_Shape.f l = some (l.all gs) := by
  unfold impl_allOf_Shape.f
  have h1 : (l.all fun x => (impl_IsShape.f x.f0 x.f1 x.f2 x.f3 x.f4 x.f5).isSome) = true := by
    rw [List.all_eq_true]; intro x _; rw [hshape_impl]; rfl
  rw [if_pos h1]
  congr 2
  funext x
  unfold impl_allOf_Shape.p gs
  rw [hshape_impl]
  cases hshape x.f0 x.f1 x.f2 x.f3 x.f4 x.f5 <;> rfl
/-- The distance of two shapes. -/
def dfar (x : S25) (t a b c d : Int) (s : Bool) : Int := (spec_shFar.f 6 x.f0 x.f1 x.f2 x.f3 x.f4 x.f5 t a b c d s).getD 0
theorem dfar_eq {x : S25} {t a b c d : Int} {s : Bool} (hx : gs x = true) (hs : hshape t a b c d s = true) (k : Nat) (hk : 6 ≤ k) :
    spec_shFar.f k x.f0 x.f1 x.f2 x.f3 x.f4 x.f5 t a b c d s = some (dfar x t a b c d s) ∧ impl_Shape_distance.f k x.f0 x.f1 x.f2 x.f3 x.f4 x.f5 t a b c d s = some (dfar x t a b c d s) := by
  obtain ⟨z, hz⟩ := far_same hx hs
  have e : dfar x t a b c d s = z := by unfold dfar; rw [(hz 6 (by omega)).1]; rfl
  rw [e]
  exact hz k hk
theorem good_at {x : S25} (hx : gs x = true) (k : Nat) (hk : 5 < k) : spec_shGood.f k x.f0 x.f1 x.f2 x.f3 x.f4 x.f5 = some true := by
  rw [hshape_spec _ _ _ _ _ _ k hk]; exact congrArg some hx
theorem nearest_l0 {t a b c d : Int} {s : Bool} (hs : hshape t a b c d s = true) (L : List S25) (hL : L.length ≤ 1048576) (hg : L.all gs = true) : ∀ (rest pre : List S25) (b0 k : Nat) (y : S25), pre ++ rest = L → b0 < pre.length → rd_T25 L (b0 : Int) = y → rest.length + 10 < k →
    ∃ z, spec_NearestShape.l0 k (b0 : Int) (dfar y t a b c d s) L (L.length : Int) (pre.length : Int) t a b c d s = some z ∧ impl_NearestShape.l0 k L (b0 : Int) L (L.length : Int) (pre.length : Int) t a b c d s = some z := by
  have hgy : ∀ (i : Nat), i < L.length → gs (rd_T25 L (i : Int)) = true := by
    intro i hi
    unfold rd_T25
    rw [Int.toNat_natCast, List.getD_eq_getElem?_getD, List.getElem?_eq_getElem hi]
    exact List.all_eq_true.1 hg _ (List.getElem_mem hi)
  intro rest
  induction rest with
  | nil =>
    intro pre b0 k y h hb hy hk
    obtain ⟨k, rfl⟩ : ∃ q, k = q + 1 := ⟨k - 1, by omega⟩
    have hpl : pre.length = L.length := by rw [← h]; simp
    have c1 : ¬ (pre.length : Int) < (L.length : Int) := by omega
    have c2 : (0 : Int) ≤ (b0 : Int) := by omega
    have c3 : (b0 : Int) < (L.length : Int) := by omega
    have hgy2 : gs y = true := by rw [← hy]; exact hgy b0 (by omega)
    simp only [spec_NearestShape.l0, impl_NearestShape.l0, c1, if_false, c2, c3, if_true, hy, (dfar_eq hgy2 hs k (by omega)).2, Option.bind_some]
    exact ⟨_, rfl, rfl⟩
  | cons x xs ih =>
    intro pre b0 k y h hb hy hk
    obtain ⟨k, rfl⟩ : ∃ q, k = q + 1 := ⟨k - 1, by omega⟩
    rw [List.length_cons] at hk
    have hpl : pre.length < L.length := by rw [← h]; simp
    have c1 : (pre.length : Int) < (L.length : Int) := by omega
    have c2 : (0 : Int) ≤ (pre.length : Int) := by omega
    have c3 : (0 : Int) ≤ (b0 : Int) := by omega
    have c4 : (b0 : Int) < (L.length : Int) := by omega
    have c5 : ¬ (b0 : Int) < 0 := by omega
    have hr : rd_T25 L (pre.length : Int) = x := by rw [← h]; exact rdS pre x xs
    have hgx : gs x = true := by rw [← hr]; exact hgy _ hpl
    have hgy2 : gs y = true := by rw [← hy]; exact hgy b0 (by omega)
    have hw : wrap64 ((pre.length : Int) + 1) = ((pre ++ [x]).length : Int) := by rw [wr (by omega) (by omega)]; simp
    simp only [spec_NearestShape.l0, impl_NearestShape.l0, c1, c2, c3, c4, c5, if_true, if_false, hr, hy, good_at hgx k (by omega), (dfar_eq hgx hs k (by omega)).1, (dfar_eq hgx hs k (by omega)).2, (dfar_eq hgy2 hs k (by omega)).2, Option.bind_some, hw]
    by_cases hlt : dfar x t a b c d s < dfar y t a b c d s
    · simp only [hlt, if_true]
      exact ih (pre ++ [x]) pre.length k x (by rw [← h]; simp) (by simp) hr (by omega)
    · simp only [hlt, if_false]
      exact ih (pre ++ [x]) b0 k y (by rw [← h]; simp) (by rw [List.length_append]; omega) hy (by omega)
/-- One that is no shape. -/
theorem nearest_bad {t a b c d : Int} {s : Bool} (hs : hshape t a b c d s = true) (L : List S25) (hL : L.length ≤ 1048576) : ∀ (rest pre : List S25) (u v : Int) (k : Nat), pre ++ rest = L → rest.all gs = false → rest.length + 10 < k →
    spec_NearestShape.l0 k u v L (L.length : Int) (pre.length : Int) t a b c d s = some (0, 0, false) := by
  intro rest
  induction rest with
  | nil => intro pre u v k h hc hk; cases hc
  | cons x xs ih =>
    intro pre u v k h hc hk
    obtain ⟨k, rfl⟩ : ∃ q, k = q + 1 := ⟨k - 1, by omega⟩
    rw [List.length_cons] at hk
    have hpl : pre.length < L.length := by rw [← h]; simp
    have c1 : (pre.length : Int) < (L.length : Int) := by omega
    have c2 : (0 : Int) ≤ (pre.length : Int) := by omega
    have hr : rd_T25 L (pre.length : Int) = x := by rw [← h]; exact rdS pre x xs
    have hw : wrap64 ((pre.length : Int) + 1) = ((pre ++ [x]).length : Int) := by rw [wr (by omega) (by omega)]; simp
    simp only [spec_NearestShape.l0, c1, c2, if_true, hr]
    rw [hshape_spec x.f0 x.f1 x.f2 x.f3 x.f4 x.f5 k (by omega)]
    simp only [Option.bind_some]
    cases hx : hshape x.f0 x.f1 x.f2 x.f3 x.f4 x.f5
    · rfl
    · have hgx : gs x = true := hx
      rw [List.all_cons, hgx, Bool.true_and] at hc
      simp only [if_true, (dfar_eq hgx hs k (by omega)).1, Option.bind_some, hw]
      have e := fun u v => ih (pre ++ [x]) u v k (by rw [← h]; simp) hc (by omega)
      split
      · exact e _ _
      · split
        · exact e _ _
        · exact e _ _
theorem nearest_same (L : List S25) (hL : L.length ≤ 1048576) (t a b c d : Int) (s : Bool) (k : Nat) (hk : L.length + 20 < k) :
    ∃ z, spec_NearestShape.f k L t a b c d s = some z ∧ impl_NearestShape.f k L t a b c d s = some z := by
  obtain ⟨k, rfl⟩ : ∃ q, k = q + 1 + 1 := ⟨k - 2, by omega⟩
  unfold spec_NearestShape.f impl_NearestShape.f
  rw [in_some, within_some, hshape_spec t a b c d s (k + 1 + 1) (by omega), hshape_impl, allOf_eq]
  simp only [Option.bind_some]
  cases hn : decide (1 ≤ (L.length : Int) ∧ (L.length : Int) ≤ 20)
  · exact ⟨(0, 0, false), rfl, rfl⟩
  cases hs : hshape t a b c d s
  · exact ⟨(0, 0, false), rfl, rfl⟩
  have hn := of_decide_eq_true hn
  simp only [if_true, Bool.not_true, spec_NearestShape.j0, impl_NearestShape.j0, Bool.false_eq_true, if_false]
  cases hg : L.all gs
  · exact ⟨(0, 0, false), nearest_bad hs L hL L [] _ _ (k + 1) (by simp) hg (by omega), rfl⟩
  · simp only [Bool.not_true, Bool.false_eq_true, if_false]
    cases L with
    | nil => simp at hn
    | cons x xs =>
      have hgx : gs x = true := by rw [List.all_cons, Bool.and_eq_true] at hg; exact hg.1
      have hr : rd_T25 (x :: xs) 0 = x := rfl
      have c1 : (0 : Int) < ((x :: xs).length : Int) := by rw [List.length_cons]; omega
      have c2 : ((-1 : Int)) < 0 := by decide
      have c3 : ¬ dfar x t a b c d s < dfar x t a b c d s := by omega
      have w1 : wrap64 (0 + 1) = 1 := wr (by decide) (by decide)
      have h := nearest_l0 hs (x :: xs) hL hg xs [x] 0 k x (by simp) (by simp) rfl (by simp at hk; omega)
      simp only [spec_NearestShape.l0, impl_NearestShape.l0, c1, Int.le_refl, if_true, hr, good_at hgx k (by omega), (dfar_eq hgx hs k (by omega)).1, (dfar_eq hgx hs k (by omega)).2, Option.bind_some, c2, c3, if_false, w1]
      exact h
end Go.Proofs.Ytaecjbhenknfkaa.MFnExactNearestShape
