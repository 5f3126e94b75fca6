import Derived.Test.YtaecjbhenknfkaaFDx0
import Derived.Test.YtaecjbhenknfkaaFDx2
import Derived.Test.YtaecjbhenknfkaaFDx1
import Derived.Test.YtaecjbhenknfkaaFDx12
namespace Go.Proofs.Ytaecjbhenknfkaa.FD
open Go.RowKit Go.Proofs.YtaecjbhenknfkaaW.PrintWords Go.Proofs.YtaecjbhenknfkaaW.PrintLast Go.Proofs.YtaecjbhenknfkaaW.PrintMore
attribute [local go_sem] max2_int min2_int max_two min_two max_three min_three max_four min_four   -- for this text's walks alone
set_option linter.unusedVariables false
set_option linter.unusedSimpArgs false

/-! ### impl_allOf_Shape: function 65 -/
/-- Does impl_IsShape hold for all elements? -/
def impl_allOf_Shape.p (x : S25) : Bool := impl_IsShape.f x.f0 x.f1 x.f2 x.f3 x.f4 x.f5 == some true
def impl_allOf_Shape.f (l0 : List S25) : Option Bool := if (l0.all fun x => (impl_IsShape.f x.f0 x.f1 x.f2 x.f3 x.f4 x.f5).isSome) = true then some (l0.all (impl_allOf_Shape.p)) else none
set_option maxHeartbeats 2000000 in
set_option maxRecDepth 100000 in
theorem impl_allOf_Shape.lit (x : S25) (r : Bool) (hx : impl_IsShape.f x.f0 x.f1 x.f2 x.f3 x.f4 x.f5 = some r) (B : Nat) (w : World) (h1 : w.cell? ⟨B, 0, none⟩ = some (.func (.func 16) #[] #[])) :
    Calls Try.prog 86 #[.agg #[.int .i64 x.f0, .int .i64 x.f1, .int .i64 x.f2, .int .i64 x.f3, .int .i64 x.f4, .bool x.f5], .pointer (some ⟨B, 0, none⟩)] w fun e w' => e = .returned (.bool (!r)) ∧ Below w.heap.size w w' := by
  have h2 := pw_cell_below (below_alloc (Below.refl _ _) (.cells #[.int .i64 x.f0, .int .i64 x.f1, .int .i64 x.f2, .int .i64 x.f3, .int .i64 x.f4, .bool x.f5] 25)) h1
  have HC := Aside0.mk (impl_IsShape.calls x.f0 x.f1 x.f2 x.f3 x.f4 x.f5 r (w.alloc (.cells #[.int .i64 x.f0, .int .i64 x.f1, .int .i64 x.f2, .int .i64 x.f3, .int .i64 x.f4, .bool x.f5] 25)) hx)
  clear hx h1
  go_enter Try.func86, Try.ntmps86
  go_wp2_with (go_at_call 16; refine (HC.out).mono ?_; rintro e w' ⟨rfl, hb⟩; have HB := Aside0.mk hb; clear hb)
  go_ret
  exact ⟨rfl, below_then (below_alloc (Below.refl _ _) _) (by simp) (HB.out)⟩
set_option maxHeartbeats 2000000 in
set_option maxRecDepth 100000 in
theorem impl_allOf_Shape.idx (p : S25 → Bool) (B1 : Value) (A : Option Addr) (c : Nat) (l : List S25) (w : World) (hr0 : Kd.C k25 w A l.length l)
    (hp0 : ∀ x ∈ l, ∀ W, Below w.heap.size w W → Calls Try.prog 86 #[.agg #[.int .i64 x.f0, .int .i64 x.f1, .int .i64 x.f2, .int .i64 x.f3, .int .i64 x.f4, .bool x.f5], B1] W fun e w' => e = .returned (.bool (p x)) ∧ Below W.heap.size W w') :
    Calls Try.prog 105 #[.slice A l.length c, .func (.func 86) #[] #[B1]] w fun e w' => e = .returned (.int .i64 (fidx p l)) ∧ Below w.heap.size w w' := by
  have HL : Aside0 (l.length ≤ 9223372036854775807) := ⟨hr0.2.1⟩
  have HR := Aside0.mk hr0
  have HP := Aside0.mk hp0
  clear hr0 hp0
  go_enter Try.func105, Try.ntmps105
  go_wp2
  go_loopg [8] l.length (fun kq v8 w' => ∃ x : Int, v8 = .int .i64 x ∧ Aside0 (0 ≤ x ∧ x + kq = l.length ∧ ∀ (j : Nat) (y : S25), (j : Int) < x → l[j]? = some y → p y = false) ∧ Aside0 (Below w.heap.size w w'))
  case atStart => exact ⟨0, rfl, ⟨by omega, by omega, fun j y hj => by omega⟩, ⟨Below.refl _ _⟩⟩
  case round =>
    obtain ⟨x, rfl, HA, HB⟩ := hrel
    by_cases hlt : x < (l.length : Int)
    · have p0 : 0 ≤ x := HA.out.1
      obtain ⟨ad, hA, hx0, hx1, hx2, hx3, hx4, hx5⟩ := at_T25 (Kd.C_below HR.out HB.out) x p0 hlt
      have HW : Aside0 (wrap64 (x + 1) = x + 1) := ⟨wrap_up p0 hlt HL.out⟩
      have hd : decide (x < (l.length : Int)) = true := decide_eq_true hlt
      have HG : Aside0 (l[x.toNat]? = some (rd_T25 l x)) := ⟨getD_at p0 hlt _⟩
      have HC := HP.out (rd_T25 l x) (List.mem_of_getElem? HG.out) _ HB.out
      cases hA
      replace p0 := eq_true p0
      replace hlt := eq_true hlt
      cases hb : p (rd_T25 l x)
      · rw [hb] at HC
        have HQ : Aside0 (p (rd_T25 l x) = false) := ⟨hb⟩
        have HC := Aside0.mk HC
        clear hb
        go_wp2_with (go_at_call 86; refine (HC.out).mono ?_; rintro e w' ⟨rfl, hb2⟩; have HB2 := Aside0.mk (below_step HB.out hb2); clear hb2)
        go_roundg (gk - 1)
        case measure => have := HA.out.2.1; have := of_eq_true hlt; omega
        case rel => exact ⟨wrap64 (x + 1), rfl, ⟨by rw [HW.out]; have := HA.out.1; omega, by rw [HW.out]; have := HA.out.2.1; have := of_eq_true hlt; omega, fun j y hj hy => by
          rw [HW.out] at hj
          rcases Int.lt_or_le j x with hji | hji
          · exact HA.out.2.2 j y hji hy
          · obtain rfl : x.toNat = j := by omega
            rw [HG.out] at hy
            obtain rfl := Option.some.inj hy
            exact HQ.out⟩, HB2⟩
      · rw [hb] at HC
        have HF : Aside0 (fidx p l = x) := ⟨by rw [fidx_at p l x.toNat _ HG.out hb (fun j y hj hy => HA.out.2.2 j y (by omega) hy)]; have := HA.out.1; omega⟩
        have HC := Aside0.mk HC
        clear hb HA
        go_wp2_with (go_at_call 86; refine (HC.out).mono ?_; rintro e w' ⟨rfl, hb2⟩; have HB2 := Aside0.mk (below_step HB.out hb2); clear hb2)
        go_ret
        exact ⟨by rw [HF.out]; rfl, HB2.out⟩
    · have HF : Aside0 (fidx p l = -1) := ⟨fidx_none p l (fun y hy => by
        obtain ⟨j, hj, rfl⟩ := List.getElem_of_mem hy
        exact HA.out.2.2 j _ (by omega) (List.getElem?_eq_getElem hj))⟩
      have hd : decide (x < (l.length : Int)) = false := decide_eq_false hlt
      clear HA hlt
      go_wp2
      go_ret
      exact ⟨by rw [HF.out]; rfl, HB.out⟩
set_option maxHeartbeats 2000000 in
set_option maxRecDepth 100000 in
theorem impl_allOf_Shape.has (p : S25 → Bool) (B1 : Value) (A : Option Addr) (c : Nat) (l : List S25) (w : World) (hr0 : Kd.C k25 w A l.length l)
    (hp0 : ∀ x ∈ l, ∀ W, Below w.heap.size w W → Calls Try.prog 86 #[.agg #[.int .i64 x.f0, .int .i64 x.f1, .int .i64 x.f2, .int .i64 x.f3, .int .i64 x.f4, .bool x.f5], B1] W fun e w' => e = .returned (.bool (p x)) ∧ Below W.heap.size W w') :
    Calls Try.prog 85 #[.slice A l.length c, .func (.func 86) #[] #[B1]] w fun e w' => e = .returned (.bool (l.any p)) ∧ Below w.heap.size w w' := by
  have HC := Aside0.mk (impl_allOf_Shape.idx p B1 A c l w hr0 hp0)
  have HA := Aside0.mk (fidx_any p l)
  clear hr0 hp0
  go_enter Try.func85, Try.ntmps85
  go_wp2_with (go_at_call 105; refine (HC.out).mono ?_; rintro e w' ⟨rfl, hb2⟩; have HB2 := Aside0.mk hb2; clear hb2)
  go_ret
  exact ⟨by rw [← HA.out]; rfl, HB2.out⟩
set_option maxHeartbeats 2000000 in
set_option maxRecDepth 100000 in
theorem impl_allOf_Shape.calls (A0 : Option Addr) (c0 : Nat) (l0 : List S25) (r : Bool) (w : World) (hr0 : Kd.C k25 w A0 l0.length l0) (hc0 : l0.length ≤ c0) (h : impl_allOf_Shape.f l0 = some r) :
    Calls Try.prog 65 #[.slice A0 l0.length c0, .func (.func 16) #[] #[]] w fun e w' => e = .returned (.bool r) ∧ Below w.heap.size w w' := by
  unfold impl_allOf_Shape.f at h
  by_cases hs : (l0.all fun x => (impl_IsShape.f x.f0 x.f1 x.f2 x.f3 x.f4 x.f5).isSome) = true
  · rw [if_pos hs] at h
    obtain rfl := Option.some.inj h
    have hb : Below w.heap.size w (w.alloc (.cells #[.func (.func 16) #[] #[]] 24)) := below_alloc (Below.refl _ _) _
    have HC := impl_allOf_Shape.has (fun x => !impl_allOf_Shape.p x) (.pointer (some ⟨w.heap.size, 0, none⟩)) A0 c0 l0 _ (Kd.C_below hr0 hb)
      (fun x hx W hW => by
        obtain ⟨b, hb2⟩ := Option.isSome_iff_exists.1 (List.all_eq_true.1 hs x hx)
        have e : impl_allOf_Shape.p x = b := by unfold impl_allOf_Shape.p; rw [hb2]; cases b <;> rfl
        rw [e]
        exact impl_allOf_Shape.lit x b hb2 _ W (pw_cell_below (w := w.alloc (.cells #[.func (.func 16) #[] #[]] 24)) hW ((blk_cell (heap_alloc_new w _) 0).trans rfl)))
    have e2 : l0.all (impl_allOf_Shape.p) = !(l0.any fun x => !impl_allOf_Shape.p x) := by rw [List.not_any_eq_all_not]; simp
    rw [e2]
    generalize (l0.any fun x => !impl_allOf_Shape.p x) = b at HC ⊢
    have HC := Aside0.mk HC
    clear hr0 hc0 h hs e2
    go_enter Try.func65, Try.ntmps65
    go_wp2_with (go_at_call 85; refine (HC.out).mono ?_; rintro e w' ⟨rfl, hb2⟩; have HB2 := Aside0.mk hb2; clear hb2)
    go_ret
    exact ⟨rfl, below_then hb (by simp) HB2.out⟩
  · rw [if_neg hs] at h; cases h

end Go.Proofs.Ytaecjbhenknfkaa.FD

namespace Go.Proofs.Ytaecjbhenknfkaa.FD
open Go.RowKit Go.Proofs.YtaecjbhenknfkaaW.PrintWords Go.Proofs.YtaecjbhenknfkaaW.PrintLast Go.Proofs.YtaecjbhenknfkaaW.PrintMore
attribute [local go_sem] max2_int min2_int max_two min_two max_three min_three max_four min_four   -- for this text's walks alone
set_option linter.unusedVariables false
set_option linter.unusedSimpArgs false

/-! ### impl_NearestShape: function 33 -/
mutual
def impl_NearestShape.j0 : Nat → List (S25) → Bool → Int → Int → Int → Int → Int → Bool → Option (Int × Int × Bool)
  | 0, _, _, _, _, _, _, _, _ => none
  | k + 1, x0, x23, x330000, x330001, x330002, x330003, x330004, x330005 => if x23 = true then (some (0, 0, false)) else (impl_NearestShape.l0 k x0 0 x0 (x0.length : Int) 0 x330000 x330001 x330002 x330003 x330004 x330005)
def impl_NearestShape.l0 : Nat → List (S25) → Int → List (S25) → Int → Int → Int → Int → Int → Int → Int → Bool → Option (Int × Int × Bool)
  | 0, _, _, _, _, _, _, _, _, _, _, _ => none
  | k + 1, x0, x7, x24, x25, x26, x330000, x330001, x330002, x330003, x330004, x330005 => if x26 < x25 then (if 0 ≤ x26 then (if x26 < (x24.length : Int) then ((impl_Shape_distance.f k ((rd_T25 x24 x26).f0) ((rd_T25 x24 x26).f1) ((rd_T25 x24 x26).f2) ((rd_T25 x24 x26).f3) ((rd_T25 x24 x26).f4) ((rd_T25 x24 x26).f5) x330000 x330001 x330002 x330003 x330004 x330005).bind fun t337 => (if 0 ≤ x7 then (if x7 < (x0.length : Int) then ((impl_Shape_distance.f k ((rd_T25 x0 x7).f0) ((rd_T25 x0 x7).f1) ((rd_T25 x0 x7).f2) ((rd_T25 x0 x7).f3) ((rd_T25 x0 x7).f4) ((rd_T25 x0 x7).f5) x330000 x330001 x330002 x330003 x330004 x330005).bind fun t339 => (if t337 < t339 then (impl_NearestShape.l0 k x0 x26 x24 x25 (wrap64 (x26 + 1)) x330000 x330001 x330002 x330003 x330004 x330005) else (impl_NearestShape.l0 k x0 x7 x24 x25 (wrap64 (x26 + 1)) x330000 x330001 x330002 x330003 x330004 x330005))) else (none)) else (none))) else (none)) else (none)) else (if 0 ≤ x7 then (if x7 < (x0.length : Int) then ((impl_Shape_distance.f k ((rd_T25 x0 x7).f0) ((rd_T25 x0 x7).f1) ((rd_T25 x0 x7).f2) ((rd_T25 x0 x7).f3) ((rd_T25 x0 x7).f4) ((rd_T25 x0 x7).f5) x330000 x330001 x330002 x330003 x330004 x330005).bind fun t334 => (some (x7, t334, true))) else (none)) else (none))
end
def impl_NearestShape.f (k : Nat) (l0 : List (S25)) (a1_0 : Int) (a1_1 : Int) (a1_2 : Int) (a1_3 : Int) (a1_4 : Int) (a1_5 : Bool) : Option (Int × Int × Bool) := (impl_within.f (l0.length : Int) 1 20).bind fun t330 => (if t330 = true then ((impl_IsShape.f a1_0 a1_1 a1_2 a1_3 a1_4 a1_5).bind fun t331 => (if t331 = true then ((impl_allOf_Shape.f l0).bind fun t332 => (impl_NearestShape.j0 k l0 (!t332) a1_0 a1_1 a1_2 a1_3 a1_4 a1_5)) else (impl_NearestShape.j0 k l0 true a1_0 a1_1 a1_2 a1_3 a1_4 a1_5))) else (impl_NearestShape.j0 k l0 true a1_0 a1_1 a1_2 a1_3 a1_4 a1_5))
theorem impl_NearestShape.mono_l : ∀ k, (∀ y0 y1 y2 y3 y4 y5 y6 y7, LeO (impl_NearestShape.j0 k y0 y1 y2 y3 y4 y5 y6 y7) (impl_NearestShape.j0 (k + 1) y0 y1 y2 y3 y4 y5 y6 y7)) ∧ (∀ y0 y1 y2 y3 y4 y5 y6 y7 y8 y9 y10, LeO (impl_NearestShape.l0 k y0 y1 y2 y3 y4 y5 y6 y7 y8 y9 y10) (impl_NearestShape.l0 (k + 1) y0 y1 y2 y3 y4 y5 y6 y7 y8 y9 y10))
  | 0 => ⟨fun _ _ _ _ _ _ _ _ r h => by simp [impl_NearestShape.j0] at h, fun _ _ _ _ _ _ _ _ _ _ _ r h => by simp [impl_NearestShape.l0] at h⟩
  | k + 1 => by
    obtain ⟨ih0, ih1⟩ := impl_NearestShape.mono_l k
    refine ⟨?_, ?_⟩
    · intro y0 y1 y2 y3 y4 y5 y6 y7
      unfold impl_NearestShape.j0
      repeat' first
      | (with_reducible exact ih0 _ _ _ _ _ _ _ _)
      | (with_reducible exact ih1 _ _ _ _ _ _ _ _ _ _ _)
      | (with_reducible exact impl_Shape_distance.mono _ _ _ _ _ _ _ _ _ _ _ _ _)
      | (with_reducible exact LeO.refl _)
      | (with_reducible exact LeO.none _)
      | (with_reducible refine LeO.ite ?_ ?_)
      | (with_reducible refine LeO.bind ?_ (fun _ => ?_))
      | exact ih0 _ _ _ _ _ _ _ _
      | exact ih1 _ _ _ _ _ _ _ _ _ _ _
      | exact impl_Shape_distance.mono _ _ _ _ _ _ _ _ _ _ _ _ _
      | exact LeO.none _
      | refine LeO.ite ?_ ?_
      | refine LeO.bind ?_ (fun _ => ?_)
    · intro y0 y1 y2 y3 y4 y5 y6 y7 y8 y9 y10
      unfold impl_NearestShape.l0
      repeat' first
      | (with_reducible exact ih0 _ _ _ _ _ _ _ _)
      | (with_reducible exact ih1 _ _ _ _ _ _ _ _ _ _ _)
      | (with_reducible exact impl_Shape_distance.mono _ _ _ _ _ _ _ _ _ _ _ _ _)
      | (with_reducible exact LeO.refl _)
      | (with_reducible exact LeO.none _)
      | (with_reducible refine LeO.ite ?_ ?_)
      | (with_reducible refine LeO.bind ?_ (fun _ => ?_))
      | exact ih0 _ _ _ _ _ _ _ _
      | exact ih1 _ _ _ _ _ _ _ _ _ _ _
      | exact impl_Shape_distance.mono _ _ _ _ _ _ _ _ _ _ _ _ _
      | exact LeO.none _
      | refine LeO.ite ?_ ?_
      | refine LeO.bind ?_ (fun _ => ?_)
theorem impl_NearestShape.mono : ∀ a0 a1 a2 a3 a4 a5 a6 k, LeO (impl_NearestShape.f k a0 a1 a2 a3 a4 a5 a6) (impl_NearestShape.f (k + 1) a0 a1 a2 a3 a4 a5 a6) := by
  intro a0 a1 a2 a3 a4 a5 a6 k
  obtain ⟨ih0, ih1⟩ := impl_NearestShape.mono_l k
  unfold impl_NearestShape.f
  repeat' first
    | (with_reducible exact ih0 _ _ _ _ _ _ _ _)
    | (with_reducible exact ih1 _ _ _ _ _ _ _ _ _ _ _)
    | (with_reducible exact impl_Shape_distance.mono _ _ _ _ _ _ _ _ _ _ _ _ _)
    | (with_reducible exact LeO.refl _)
    | (with_reducible exact LeO.none _)
    | (with_reducible refine LeO.ite ?_ ?_)
    | (with_reducible refine LeO.bind ?_ (fun _ => ?_))
    | exact ih0 _ _ _ _ _ _ _ _
    | exact ih1 _ _ _ _ _ _ _ _ _ _ _
    | exact impl_Shape_distance.mono _ _ _ _ _ _ _ _ _ _ _ _ _
    | exact LeO.none _
    | refine LeO.ite ?_ ?_
    | refine LeO.bind ?_ (fun _ => ?_)
def impl_NearestShape.T7 : Bool × List (List Nat × List Nat) := (true, [([], []), ([], []), ([0, 1], [0, 1]), ([], []), ([], []), ([3, 4], [3, 4]), ([5], [5]), ([], []), ([6, 7, 2], [6, 7]), ([2, 8], [2, 8])])
def impl_NearestShape.B7 : List Nat := [0, 0, 3, 0, 0, 24, 56, 0, 255, 511]
theorem impl_NearestShape.tab7 : rtab .any (opsOf Try.f33 7) = impl_NearestShape.T7 := by kernel_rfl
theorem impl_NearestShape.bits7 : waitsOk impl_NearestShape.T7.2 impl_NearestShape.B7 = true := by kernel_rfl
def impl_NearestShape.T10 : Bool × List (List Nat × List Nat) := (true, [([], []), ([], []), ([], []), ([1, 2], [1, 2]), ([3], [3]), ([], []), ([4, 5], [4, 5]), ([0, 6, 0], [0]), ([6, 7, 0, 1, 2, 3, 4, 5, 6, 7], [6]), ([8, 0, 1, 2, 3, 4, 5, 6, 7, 8], [])])
def impl_NearestShape.B10 : List Nat := [0, 0, 0, 6, 14, 0, 62, 127, 255, 511]
theorem impl_NearestShape.tab10 : rtab .any (opsOf Try.f33 10) = impl_NearestShape.T10 := by kernel_rfl
theorem impl_NearestShape.bits10 : waitsOk impl_NearestShape.T10.2 impl_NearestShape.B10 = true := by kernel_rfl
set_option maxHeartbeats 8000000 in
set_option maxRecDepth 100000 in
theorem impl_NearestShape.calls (k : Nat) (A0 : Option Addr) (c0 : Nat) (l0 : List (S25)) (a1_0 : Int) (a1_1 : Int) (a1_2 : Int) (a1_3 : Int) (a1_4 : Int) (a1_5 : Bool) (r1 : Int) (r2 : Int) (r3 : Bool) (w : World) (hr0 : Kd.C k25 w A0 l0.length l0) (hc0 : l0.length ≤ c0) (h : impl_NearestShape.f k l0 a1_0 a1_1 a1_2 a1_3 a1_4 a1_5 = some (r1, r2, r3)) :
    Calls Try.prog 33 #[.slice A0 l0.length c0, .agg #[.int .i64 a1_0, .int .i64 a1_1, .int .i64 a1_2, .int .i64 a1_3, .int .i64 a1_4, .bool a1_5]] w fun e w' => e = .returned (.tuple #[.int .i64 r1, .int .i64 r2, .bool r3]) ∧ Below w.heap.size w w' := by
  have hu25 := Try.underlying25
  have HR0 := Aside0.mk hr0
  have HC0 := Aside0.mk hc0
  clear hr0 hc0
  have HB := Aside0.mk (Below.refl w.heap.size w)
  have H : ((impl_within.f (l0.length : Int) 1 20).bind fun t330 => (if t330 = true then ((impl_IsShape.f a1_0 a1_1 a1_2 a1_3 a1_4 a1_5).bind fun t331 => (if t331 = true then ((impl_allOf_Shape.f l0).bind fun t332 => (impl_NearestShape.j0 k l0 (!t332) a1_0 a1_1 a1_2 a1_3 a1_4 a1_5)) else (impl_NearestShape.j0 k l0 true a1_0 a1_1 a1_2 a1_3 a1_4 a1_5))) else (impl_NearestShape.j0 k l0 true a1_0 a1_1 a1_2 a1_3 a1_4 a1_5))) = some (r1, r2, r3) := h
  clear h
  have HC3 := Aside0.mk H
  clear H
  go_enter Try.func33, Try.ntmps33
  go_upto_region 1 with (first | ((with_reducible refine gate_dst (N := 3) rfl ?_); refine box_event ?hg (N := 3) ?hd (cs := #[.int .i64 a1_0, .int .i64 a1_1, .int .i64 a1_2, .int .i64 a1_3, .int .i64 a1_4, .bool a1_5]) (t := 25) ?hr ?_; (case hd => rfl); (case hg => rfl); (case hr => first | (go_simp; done) | (go_simp; rfl)); intro gb329 hg w4 hbox hb; have n0_ := Aside0.mk (below_step (by repeat (first | (with_reducible first | exact HB.out | apply below_alloc | apply pw_below_drewN | apply below_drew1) | exact HB.out)) hb); have n1_ := Aside0.mk (hbox); have n2_ := Aside0.mk ((by rw [hg]; exact (below_size (by repeat (first | (with_reducible first | exact HB.out | apply below_alloc | apply pw_below_drewN | apply below_drew1) | exact HB.out))) : w.heap.size ≤ gb329)); have n3_ := Aside0.mk ((by rw [hg]; exact (below_size (by repeat (first | (with_reducible first | exact HB.out | apply below_alloc | apply pw_below_drewN | apply below_drew1) | exact HB.out))) : w.heap.size ≤ gb329)); clear HB; have HB := n0_; have BK329 := n1_; have GW329 := n2_; have GE329 := n3_; clear n0_ n1_ n2_ n3_; clear hb hbox hg))
  (try simp only [Act.put, List.setIfInBounds_toArray, List.set_cons_zero, List.set_cons_succ])
  go_cut [23] (fun v23 wc => ∃ (kq : Nat) (x23_2 : Bool), v23 = .bool x23_2 ∧ Aside0 (impl_NearestShape.j0 kq l0 x23_2 a1_0 a1_1 a1_2 a1_3 a1_4 a1_5 = some (r1, r2, r3)) ∧ Aside0 (kq ≤ k) ∧ Aside0 (wc.heap[gb329]? = some (.cells #[.int .i64 a1_0, .int .i64 a1_1, .int .i64 a1_2, .int .i64 a1_3, .int .i64 a1_4, .bool a1_5] 25 (0, 0))) ∧ Aside0 (Below w.heap.size w wc))
  case first =>
   have H := HC3.out
   clear HC3
   replace H := Option.bind_eq_some_iff.mp H
   obtain ⟨t330, A50, H⟩ := H
   replace H : (if t330 = true then ((impl_IsShape.f a1_0 a1_1 a1_2 a1_3 a1_4 a1_5).bind fun t331 => (if t331 = true then ((impl_allOf_Shape.f l0).bind fun t332 => (impl_NearestShape.j0 k l0 (!t332) a1_0 a1_1 a1_2 a1_3 a1_4 a1_5)) else (impl_NearestShape.j0 k l0 true a1_0 a1_1 a1_2 a1_3 a1_4 a1_5))) else (impl_NearestShape.j0 k l0 true a1_0 a1_1 a1_2 a1_3 a1_4 a1_5)) = some (r1, r2, r3) := H
   have A5 := Aside0.mk A50
   clear A50
   refine dite (t330 = true) (fun c6 => ?qp45) (fun c6 => ?qn45)
   case' qp45 =>
    subst c6
    have H1 : ((impl_IsShape.f a1_0 a1_1 a1_2 a1_3 a1_4 a1_5).bind fun t331 => (if t331 = true then ((impl_allOf_Shape.f l0).bind fun t332 => (impl_NearestShape.j0 k l0 (!t332) a1_0 a1_1 a1_2 a1_3 a1_4 a1_5)) else (impl_NearestShape.j0 k l0 true a1_0 a1_1 a1_2 a1_3 a1_4 a1_5))) = some (r1, r2, r3) := by rw [if_pos rfl] at H; exact H
    clear H
    have H := H1
    clear H1
    replace H := Option.bind_eq_some_iff.mp H
    obtain ⟨t331, A70, H⟩ := H
    replace H : (if t331 = true then ((impl_allOf_Shape.f l0).bind fun t332 => (impl_NearestShape.j0 k l0 (!t332) a1_0 a1_1 a1_2 a1_3 a1_4 a1_5)) else (impl_NearestShape.j0 k l0 true a1_0 a1_1 a1_2 a1_3 a1_4 a1_5)) = some (r1, r2, r3) := H
    have A7 := Aside0.mk A70
    clear A70
    refine dite (t331 = true) (fun c8 => ?qp46) (fun c8 => ?qn46)
    case' qp46 =>
     subst c8
     have H1 : ((impl_allOf_Shape.f l0).bind fun t332 => (impl_NearestShape.j0 k l0 (!t332) a1_0 a1_1 a1_2 a1_3 a1_4 a1_5)) = some (r1, r2, r3) := by rw [if_pos rfl] at H; exact H
     clear H
     have H := H1
     clear H1
     replace H := Option.bind_eq_some_iff.mp H
     obtain ⟨t332, A90, H⟩ := H
     replace H : (impl_NearestShape.j0 k l0 (!t332) a1_0 a1_1 a1_2 a1_3 a1_4 a1_5) = some (r1, r2, r3) := H
     have A9 := Aside0.mk A90
     clear A90
    case' qn46 =>
     replace c8 := Bool.eq_false_iff.mpr c8
     subst c8
     have H1 : (impl_NearestShape.j0 k l0 true a1_0 a1_1 a1_2 a1_3 a1_4 a1_5) = some (r1, r2, r3) := by rw [if_neg (show ¬ (false = true) by decide)] at H; exact H
     clear H
     have H := H1
     clear H1
   case' qn45 =>
    replace c6 := Bool.eq_false_iff.mpr c6
    subst c6
    have H1 : (impl_NearestShape.j0 k l0 true a1_0 a1_1 a1_2 a1_3 a1_4 a1_5) = some (r1, r2, r3) := by rw [if_neg (show ¬ (false = true) by decide)] at H; exact H
    clear H
    have H := H1
    clear H1
   all_goals
    have H' := Aside0.mk H
    clear H
    go_wp2_with (first | ((with_reducible refine gate_callee (f := 64) rfl ?_); refine goesL_ (some 12) rfl rfl Try.func64 (by kernel_rfl) rfl #[.int .i64 (l0.length : Int), .int .i64 1, .int .i64 20] rfl (by (try simp only [List.map_toArray, List.map_cons, List.map_nil]); first | done | rfl | (simp only [List.length_drop, List.length_take]; rfl)) ?_; (with_reducible refine (impl_within.calls (l0.length : Int) 1 20 _ _ A5.out).mono ?_); rintro e w' ⟨rfl, ⟨nd, rfl⟩⟩; refine ⟨_, rfl, ?_⟩; have hczx0_0 : w4.cell? ⟨gb329, 0, none⟩ = some (.int .i64 a1_0) := (blk_cell BK329.out 0).trans rfl; have hczx0_1 : w4.cell? ⟨gb329, 1, none⟩ = some (.int .i64 a1_1) := (blk_cell BK329.out 1).trans rfl; have hczx0_2 : w4.cell? ⟨gb329, 2, none⟩ = some (.int .i64 a1_2) := (blk_cell BK329.out 2).trans rfl; have hczx0_3 : w4.cell? ⟨gb329, 3, none⟩ = some (.int .i64 a1_3) := (blk_cell BK329.out 3).trans rfl; have hczx0_4 : w4.cell? ⟨gb329, 4, none⟩ = some (.int .i64 a1_4) := (blk_cell BK329.out 4).trans rfl; have hczx0_5 : w4.cell? ⟨gb329, 5, none⟩ = some (.bool a1_5) := (blk_cell BK329.out 5).trans rfl; have hfzx0_0 := blk_frozen BK329.out 0; have hfzx0_1 := blk_frozen BK329.out 1; have hfzx0_2 := blk_frozen BK329.out 2; have hfzx0_3 := blk_frozen BK329.out 3; have hfzx0_4 := blk_frozen BK329.out 4; have hfzx0_5 := blk_frozen BK329.out 5) | (go_at_call 16; (with_reducible refine (impl_IsShape.calls a1_0 a1_1 a1_2 a1_3 a1_4 a1_5 _ _ A7.out).mono ?_); rintro e wx0 ⟨rfl, hb⟩; have n0_ := Aside0.mk (blk_below (g := gb329) (o := .cells #[.int .i64 a1_0, .int .i64 a1_1, .int .i64 a1_2, .int .i64 a1_3, .int .i64 a1_4, .bool a1_5] 25 (0, 0)) (by exact BK329.out) hb); have n1_ := Aside0.mk (below_step (by repeat (first | (with_reducible first | exact HB.out | apply below_alloc | apply pw_below_drewN | apply below_drew1 | refine below_set ?_ GE329.out) | exact HB.out)) hb); clear BK329; clear HB; have BK329 := n0_; have HB := n1_; clear n0_ n1_; (try clear hb); (try clear hb2); (try clear hk); (try clear hi)) | (go_at_call 65; (with_reducible refine (impl_allOf_Shape.calls _ _ l0 t332 _ ?side1 ?side2 A9.out).mono ?_); (case side1 => repeat (first | exact (Kd.C_below HR0.out HB.out) | (with_reducible refine Kd.C_alloc ?_ _) | (with_reducible refine Kd.C_drewN ?_ _) | (with_reducible refine Kd.C_drew ?_))); (case side2 => exact HC0.out); rintro e wx1 ⟨rfl, hb⟩; have n0_ := Aside0.mk (blk_below (g := gb329) (o := .cells #[.int .i64 a1_0, .int .i64 a1_1, .int .i64 a1_2, .int .i64 a1_3, .int .i64 a1_4, .bool a1_5] 25 (0, 0)) (by exact BK329.out) hb); have n1_ := Aside0.mk (below_step (by repeat (first | (with_reducible first | exact HB.out | apply below_alloc | apply pw_below_drewN | apply below_drew1 | refine below_set ?_ GE329.out) | exact HB.out)) hb); clear BK329; clear HB; have BK329 := n0_; have HB := n1_; clear n0_ n1_; (try clear hb); (try clear hb2); (try clear hk); (try clear hi)))
   · go_meet
     case rel => exact ⟨_, (true), (by first | rfl | (simp; done) | (simp [*]; done)), H', ⟨by first | omega | exact Nat.le_refl _⟩, ⟨by exact BK329.out⟩, ⟨by repeat (first | (with_reducible first | exact HB.out | apply below_alloc | apply pw_below_drewN | apply below_drew1 | refine below_set ?_ GE329.out) | exact HB.out)⟩⟩
   · go_meet
     case rel => exact ⟨_, (true), (by first | rfl | (simp; done) | (simp [*]; done)), H', ⟨by first | omega | exact Nat.le_refl _⟩, ⟨by exact BK329.out⟩, ⟨by repeat (first | (with_reducible first | exact HB.out | apply below_alloc | apply pw_below_drewN | apply below_drew1 | refine below_set ?_ GE329.out) | exact HB.out)⟩⟩
   · go_meet
     case rel => exact ⟨_, (!t332), (by first | rfl | (simp; done) | (simp [*]; done)), H', ⟨by first | omega | exact Nat.le_refl _⟩, ⟨by exact BK329.out⟩, ⟨by repeat (first | (with_reducible first | exact HB.out | apply below_alloc | apply pw_below_drewN | apply below_drew1 | refine below_set ?_ GE329.out) | exact HB.out)⟩⟩
  case rest =>
   clear HC3
   (try clear hcz10_0); (try clear hcz10_1); (try clear hcz10_2); (try clear hcz10_3); (try clear hcz10_4); (try clear hcz10_5); (try clear hcz13_0); (try clear hcz13_1); (try clear hcz13_2); (try clear hcz13_3); (try clear hcz13_4); (try clear hcz13_5); (try clear hfz10_0); (try clear hfz10_1); (try clear hfz10_2); (try clear hfz10_3); (try clear hfz10_4); (try clear hfz10_5); (try clear hfz13_0); (try clear hfz13_1); (try clear hfz13_2); (try clear hfz13_3); (try clear hfz13_4); (try clear hfz13_5)
   obtain ⟨kq, x23_2, rfl, HA, HJ2, BK329, HB⟩ := hcut
   cases kq with
   | zero => exact absurd HA.out (by simp [impl_NearestShape.j0])
   | succ kj2 =>
    have H := HA.out
    clear HA
    simp only [impl_NearestShape.j0] at H
    by_cases c15 : x23_2 = true
    ·
     subst c15
     have H1 : (some (0, 0, false)) = some (r1, r2, r3) := by rw [if_pos rfl] at H; exact H
     clear H
     have H := H1
     clear H1
     simp only [Option.some.injEq, Prod.mk.injEq] at H
     obtain ⟨rfl, rfl, rfl⟩ := H
     go_wp2
     go_ret3
     exact ⟨by first | rfl | (simp [errW_none, errW_some] <;> rfl) | (simp [*, errW_none, errW_some] <;> rfl), by repeat (first | (with_reducible first | exact HB.out | apply below_alloc | apply pw_below_drewN | apply below_drew1 | refine below_set ?_ GE329.out) | exact HB.out)⟩
    ·
     replace c15 := Bool.eq_false_iff.mpr c15
     subst c15
     have H1 : (impl_NearestShape.l0 kj2 l0 0 l0 (l0.length : Int) 0 a1_0 a1_1 a1_2 a1_3 a1_4 a1_5) = some (r1, r2, r3) := by rw [if_neg (show ¬ (false = true) by decide)] at H; exact H
     clear H
     have H := H1
     clear H1
     have H' := Aside0.mk H
     clear H
     go_wp2
     go_loopg [7, 26] kj2 (fun kq v7 v26 w' => ∃ (x7_2 : Int) (x26_2 : Int), v7 = .int .i64 x7_2 ∧ v26 = .int .i64 x26_2 ∧ Aside0 (impl_NearestShape.l0 kq l0 x7_2 l0 (l0.length : Int) x26_2 a1_0 a1_1 a1_2 a1_3 a1_4 a1_5 = some (r1, r2, r3)) ∧ Aside0 (kq ≤ kj2) ∧ Aside0 (w'.heap[gb329]? = some (.cells #[.int .i64 a1_0, .int .i64 a1_1, .int .i64 a1_2, .int .i64 a1_3, .int .i64 a1_4, .bool a1_5] 25 (0, 0))) ∧ Aside0 (Below w.heap.size w w'))
     case atStart => exact ⟨(0), (0), (by first | rfl | (simp; done) | (simp [*]; done)), (by first | rfl | (simp; done) | (simp [*]; done)), H', ⟨Nat.le_refl _⟩, ⟨by exact BK329.out⟩, ⟨by repeat (first | (with_reducible first | exact HB.out | apply below_alloc | apply pw_below_drewN | apply below_drew1 | refine below_set ?_ GE329.out) | exact HB.out)⟩⟩
     case round =>
      clear H'
      (try clear hcz10_0); (try clear hcz10_1); (try clear hcz10_2); (try clear hcz10_3); (try clear hcz10_4); (try clear hcz10_5); (try clear hcz13_0); (try clear hcz13_1); (try clear hcz13_2); (try clear hcz13_3); (try clear hcz13_4); (try clear hcz13_5); (try clear hfz10_0); (try clear hfz10_1); (try clear hfz10_2); (try clear hfz10_3); (try clear hfz10_4); (try clear hfz10_5); (try clear hfz13_0); (try clear hfz13_1); (try clear hfz13_2); (try clear hfz13_3); (try clear hfz13_4); (try clear hfz13_5)
      obtain ⟨x7_2, x26_2, rfl, rfl, HA, HK2, BK329, HB⟩ := hrel
      cases gk with
      | zero => exact absurd HA.out (by simp [impl_NearestShape.l0])
      | succ k2 =>
       have H := HA.out
       clear HA
       simp only [impl_NearestShape.l0] at H
       by_cases c16 : x26_2 < (l0.length : Int)
       ·
        rw [if_pos c16] at H
        have c16b0 : decide (x26_2 < (l0.length : Int)) = true := decide_eq_true c16
        clear c16
        by_cases c17 : 0 ≤ x26_2
        ·
         rw [if_pos c17] at H
         have c17b0 : decide (0 ≤ x26_2) = true := decide_eq_true c17
         clear c17
         by_cases c18 : x26_2 < (l0.length : Int)
         ·
          rw [if_pos c18] at H
          have c18b0 : decide (x26_2 < (l0.length : Int)) = true := decide_eq_true c18
          clear c18
          replace H := Option.bind_eq_some_iff.mp H
          obtain ⟨t337, A190, H⟩ := H
          replace H : (if 0 ≤ x7_2 then (if x7_2 < (l0.length : Int) then ((impl_Shape_distance.f k2 ((rd_T25 l0 x7_2).f0) ((rd_T25 l0 x7_2).f1) ((rd_T25 l0 x7_2).f2) ((rd_T25 l0 x7_2).f3) ((rd_T25 l0 x7_2).f4) ((rd_T25 l0 x7_2).f5) a1_0 a1_1 a1_2 a1_3 a1_4 a1_5).bind fun t339 => (if t337 < t339 then (impl_NearestShape.l0 k2 l0 x26_2 l0 (l0.length : Int) (wrap64 (x26_2 + 1)) a1_0 a1_1 a1_2 a1_3 a1_4 a1_5) else (impl_NearestShape.l0 k2 l0 x7_2 l0 (l0.length : Int) (wrap64 (x26_2 + 1)) a1_0 a1_1 a1_2 a1_3 a1_4 a1_5))) else (none)) else (none)) = some (r1, r2, r3) := H
          have A19 := Aside0.mk A190
          clear A190
          by_cases c20 : 0 ≤ x7_2
          ·
           rw [if_pos c20] at H
           have c20b0 : decide (0 ≤ x7_2) = true := decide_eq_true c20
           clear c20
           by_cases c21 : x7_2 < (l0.length : Int)
           ·
            rw [if_pos c21] at H
            have c21b0 : decide (x7_2 < (l0.length : Int)) = true := decide_eq_true c21
            clear c21
            replace H := Option.bind_eq_some_iff.mp H
            obtain ⟨t339, A220, H⟩ := H
            replace H : (if t337 < t339 then (impl_NearestShape.l0 k2 l0 x26_2 l0 (l0.length : Int) (wrap64 (x26_2 + 1)) a1_0 a1_1 a1_2 a1_3 a1_4 a1_5) else (impl_NearestShape.l0 k2 l0 x7_2 l0 (l0.length : Int) (wrap64 (x26_2 + 1)) a1_0 a1_1 a1_2 a1_3 a1_4 a1_5)) = some (r1, r2, r3) := H
            have A22 := Aside0.mk A220
            clear A220
            by_cases c23 : t337 < t339
            ·
             rw [if_pos c23] at H
             have c23b0 : decide (t337 < t339) = true := decide_eq_true c23
             clear c23
             have H' := Aside0.mk H
             clear H
             have p335 : 0 ≤ (x26_2 : Int) := of_decide_eq_true (by first | (with_reducible assumption) | assumption)
             have q335 : x26_2 < (l0.length : Int) := of_decide_eq_true (by first | (with_reducible assumption) | assumption)
             obtain ⟨ad335, e335, hx335_0, hx335_1, hx335_2, hx335_3, hx335_4, hx335_5⟩ := at_T25 HR0.out x26_2 p335 q335
             cases e335
             replace hx335_0 := (HB.out.cell (World.block_lt_of_cell? w _ hx335_0)).trans hx335_0
             replace hx335_1 := (HB.out.cell (World.block_lt_of_cell? w _ hx335_1)).trans hx335_1
             replace hx335_2 := (HB.out.cell (World.block_lt_of_cell? w _ hx335_2)).trans hx335_2
             replace hx335_3 := (HB.out.cell (World.block_lt_of_cell? w _ hx335_3)).trans hx335_3
             replace hx335_4 := (HB.out.cell (World.block_lt_of_cell? w _ hx335_4)).trans hx335_4
             replace hx335_5 := (HB.out.cell (World.block_lt_of_cell? w _ hx335_5)).trans hx335_5
             replace p335 := eq_true p335
             replace q335 := eq_true q335
             try go_wp2_with (first | ((with_reducible refine gate_dst (N := 9) rfl ?_); refine box_event ?hg (N := 9) ?hd (cs := #[.int .i64 0, .int .i64 0, .int .i64 0, .int .i64 0, .int .i64 0, .bool false]) (t := 25) ?hr ?_; (case hd => rfl); (case hg => rfl); (case hr => first | (go_simp; done) | (go_simp; rfl)); intro gb336 hg w24 hbox hb; have n0_ := Aside0.mk (blk_below (g := gb329) (o := .cells #[.int .i64 a1_0, .int .i64 a1_1, .int .i64 a1_2, .int .i64 a1_3, .int .i64 a1_4, .bool a1_5] 25 (0, 0)) (by exact BK329.out) hb); have n1_ := Aside0.mk (below_step (by repeat (first | (with_reducible first | exact HB.out | apply below_alloc | apply pw_below_drewN | apply below_drew1 | refine below_set ?_ GE329.out) | exact HB.out)) hb); have n2_ := Aside0.mk (hbox); have n3_ := Aside0.mk ((by rw [hg]; exact (below_size (by repeat (first | (with_reducible first | exact HB.out | apply below_alloc | apply pw_below_drewN | apply below_drew1 | refine below_set ?_ GE329.out) | exact HB.out))) : w.heap.size ≤ gb336)); have n4_ := Aside0.mk ((by rw [hg]; exact (below_size (by repeat (first | (with_reducible first | exact HB.out | apply below_alloc | apply pw_below_drewN | apply below_drew1 | refine below_set ?_ GE329.out) | exact HB.out))) : w.heap.size ≤ gb336)); have n5_ := Aside0.mk ((by rw [hg]; exact Nat.ne_of_lt (blk_lt (g := gb329) (o := .cells #[.int .i64 a1_0, .int .i64 a1_1, .int .i64 a1_2, .int .i64 a1_3, .int .i64 a1_4, .bool a1_5] 25 (0, 0)) (by exact BK329.out)) : gb329 ≠ gb336)); have n6_ := Aside0.mk ((by rw [hg]; exact Nat.ne_of_gt (blk_lt (g := gb329) (o := .cells #[.int .i64 a1_0, .int .i64 a1_1, .int .i64 a1_2, .int .i64 a1_3, .int .i64 a1_4, .bool a1_5] 25 (0, 0)) (by exact BK329.out)) : gb336 ≠ gb329)); clear BK329; clear HB; have BK329 := n0_; have HB := n1_; have BK336 := n2_; have GW336 := n3_; have GE336 := n4_; have NB329_336 := n5_; have NB336_329 := n6_; clear n0_ n1_ n2_ n3_ n4_ n5_ n6_; clear hb hbox hg; have hnb25 := NB336_329.out; have hnc25 := NB329_336.out; have hcz26_0 : w24.cell? ⟨gb336, 0, none⟩ = some (.int .i64 0) := (blk_cell BK336.out 0).trans rfl; have hcz26_1 : w24.cell? ⟨gb336, 1, none⟩ = some (.int .i64 0) := (blk_cell BK336.out 1).trans rfl; have hcz26_2 : w24.cell? ⟨gb336, 2, none⟩ = some (.int .i64 0) := (blk_cell BK336.out 2).trans rfl; have hcz26_3 : w24.cell? ⟨gb336, 3, none⟩ = some (.int .i64 0) := (blk_cell BK336.out 3).trans rfl; have hcz26_4 : w24.cell? ⟨gb336, 4, none⟩ = some (.int .i64 0) := (blk_cell BK336.out 4).trans rfl; have hcz26_5 : w24.cell? ⟨gb336, 5, none⟩ = some (.bool false) := (blk_cell BK336.out 5).trans rfl; have hfz26_0 := blk_frozen BK336.out 0; have hfz26_1 := blk_frozen BK336.out 1; have hfz26_2 := blk_frozen BK336.out 2; have hfz26_3 := blk_frozen BK336.out 3; have hfz26_4 := blk_frozen BK336.out 4; have hfz26_5 := blk_frozen BK336.out 5))
             have n0_ : Aside0 (((((((w24.setCell ⟨gb336, 0, none⟩ (.int .i64 ((rd_T25 l0 x26_2).f0))).setCell ⟨gb336, 1, none⟩ (.int .i64 ((rd_T25 l0 x26_2).f1))).setCell ⟨gb336, 2, none⟩ (.int .i64 ((rd_T25 l0 x26_2).f2))).setCell ⟨gb336, 3, none⟩ (.int .i64 ((rd_T25 l0 x26_2).f3))).setCell ⟨gb336, 4, none⟩ (.int .i64 ((rd_T25 l0 x26_2).f4))).setCell ⟨gb336, 5, none⟩ (.bool ((rd_T25 l0 x26_2).f5))).heap[gb329]? = some (.cells #[.int .i64 a1_0, .int .i64 a1_1, .int .i64 a1_2, .int .i64 a1_3, .int .i64 a1_4, .bool a1_5] 25 (0, 0))) := ⟨by refine blk_far ?_ NB329_336.out _; refine blk_far ?_ NB329_336.out _; refine blk_far ?_ NB329_336.out _; refine blk_far ?_ NB329_336.out _; refine blk_far ?_ NB329_336.out _; refine blk_far ?_ NB329_336.out _; exact BK329.out⟩
             have n1_ : Aside0 (((((((w24.setCell ⟨gb336, 0, none⟩ (.int .i64 ((rd_T25 l0 x26_2).f0))).setCell ⟨gb336, 1, none⟩ (.int .i64 ((rd_T25 l0 x26_2).f1))).setCell ⟨gb336, 2, none⟩ (.int .i64 ((rd_T25 l0 x26_2).f2))).setCell ⟨gb336, 3, none⟩ (.int .i64 ((rd_T25 l0 x26_2).f3))).setCell ⟨gb336, 4, none⟩ (.int .i64 ((rd_T25 l0 x26_2).f4))).setCell ⟨gb336, 5, none⟩ (.bool ((rd_T25 l0 x26_2).f5))).heap[gb336]? = some (.cells #[.int .i64 ((rd_T25 l0 x26_2).f0), .int .i64 ((rd_T25 l0 x26_2).f1), .int .i64 ((rd_T25 l0 x26_2).f2), .int .i64 ((rd_T25 l0 x26_2).f3), .int .i64 ((rd_T25 l0 x26_2).f4), .bool ((rd_T25 l0 x26_2).f5)] 25 (0, 0))) := ⟨by refine blk_put (cs := #[.int .i64 ((rd_T25 l0 x26_2).f0), .int .i64 ((rd_T25 l0 x26_2).f1), .int .i64 ((rd_T25 l0 x26_2).f2), .int .i64 ((rd_T25 l0 x26_2).f3), .int .i64 ((rd_T25 l0 x26_2).f4), .bool false]) ?_ 5 _ rfl; refine blk_put (cs := #[.int .i64 ((rd_T25 l0 x26_2).f0), .int .i64 ((rd_T25 l0 x26_2).f1), .int .i64 ((rd_T25 l0 x26_2).f2), .int .i64 ((rd_T25 l0 x26_2).f3), .int .i64 0, .bool false]) ?_ 4 _ rfl; refine blk_put (cs := #[.int .i64 ((rd_T25 l0 x26_2).f0), .int .i64 ((rd_T25 l0 x26_2).f1), .int .i64 ((rd_T25 l0 x26_2).f2), .int .i64 0, .int .i64 0, .bool false]) ?_ 3 _ rfl; refine blk_put (cs := #[.int .i64 ((rd_T25 l0 x26_2).f0), .int .i64 ((rd_T25 l0 x26_2).f1), .int .i64 0, .int .i64 0, .int .i64 0, .bool false]) ?_ 2 _ rfl; refine blk_put (cs := #[.int .i64 ((rd_T25 l0 x26_2).f0), .int .i64 0, .int .i64 0, .int .i64 0, .int .i64 0, .bool false]) ?_ 1 _ rfl; refine blk_put (cs := #[.int .i64 0, .int .i64 0, .int .i64 0, .int .i64 0, .int .i64 0, .bool false]) ?_ 0 _ rfl; exact BK336.out⟩
             have n2_ : Aside0 (Below w.heap.size w ((((((w24.setCell ⟨gb336, 0, none⟩ (.int .i64 ((rd_T25 l0 x26_2).f0))).setCell ⟨gb336, 1, none⟩ (.int .i64 ((rd_T25 l0 x26_2).f1))).setCell ⟨gb336, 2, none⟩ (.int .i64 ((rd_T25 l0 x26_2).f2))).setCell ⟨gb336, 3, none⟩ (.int .i64 ((rd_T25 l0 x26_2).f3))).setCell ⟨gb336, 4, none⟩ (.int .i64 ((rd_T25 l0 x26_2).f4))).setCell ⟨gb336, 5, none⟩ (.bool ((rd_T25 l0 x26_2).f5)))) := ⟨by repeat (first | (with_reducible first | exact HB.out | apply below_alloc | apply pw_below_drewN | apply below_drew1 | refine below_set ?_ GE329.out | refine below_set ?_ GE336.out) | exact HB.out)⟩
             (try clear BK329)
             (try clear BK336)
             (try clear HB)
             generalize ((((((w24.setCell ⟨gb336, 0, none⟩ (.int .i64 ((rd_T25 l0 x26_2).f0))).setCell ⟨gb336, 1, none⟩ (.int .i64 ((rd_T25 l0 x26_2).f1))).setCell ⟨gb336, 2, none⟩ (.int .i64 ((rd_T25 l0 x26_2).f2))).setCell ⟨gb336, 3, none⟩ (.int .i64 ((rd_T25 l0 x26_2).f3))).setCell ⟨gb336, 4, none⟩ (.int .i64 ((rd_T25 l0 x26_2).f4))).setCell ⟨gb336, 5, none⟩ (.bool ((rd_T25 l0 x26_2).f5))) = w27 at n0_ n1_ n2_ ⊢
             have BK329 := n0_
             have BK336 := n1_
             have HB := n2_
             clear n0_ n1_ n2_
             have n0_ := Aside0.mk (blk_drew BK329.out)
             have n1_ := Aside0.mk (blk_drew BK336.out)
             have n2_ := Aside0.mk (below_drew1 HB.out)
             clear BK329
             clear BK336
             clear HB
             have BK329 := n0_
             have BK336 := n1_
             have HB := n2_
             clear n0_ n1_ n2_
             have p338 : 0 ≤ (x7_2 : Int) := of_decide_eq_true (by first | (with_reducible assumption) | assumption)
             have q338 : x7_2 < (l0.length : Int) := of_decide_eq_true (by first | (with_reducible assumption) | assumption)
             obtain ⟨ad338, e338, hx338_0, hx338_1, hx338_2, hx338_3, hx338_4, hx338_5⟩ := at_T25 HR0.out x7_2 p338 q338
             have hw338_5 := hx338_5
             have hw338_4 := hx338_4
             have hw338_3 := hx338_3
             have hw338_2 := hx338_2
             have hw338_1 := hx338_1
             have hw338_0 := hx338_0
             obtain rfl : ad335 = ad338 := (by injection e338)
             replace hx338_0 := (HB.out.cell (World.block_lt_of_cell? w _ hx338_0)).trans hx338_0
             replace hx338_1 := (HB.out.cell (World.block_lt_of_cell? w _ hx338_1)).trans hx338_1
             replace hx338_2 := (HB.out.cell (World.block_lt_of_cell? w _ hx338_2)).trans hx338_2
             replace hx338_3 := (HB.out.cell (World.block_lt_of_cell? w _ hx338_3)).trans hx338_3
             replace hx338_4 := (HB.out.cell (World.block_lt_of_cell? w _ hx338_4)).trans hx338_4
             replace hx338_5 := (HB.out.cell (World.block_lt_of_cell? w _ hx338_5)).trans hx338_5
             replace p338 := eq_true p338
             replace q338 := eq_true q338
             refine start_ (n := 10) (S := fun w' => w'.cell? ⟨gb336, 0, none⟩ = some (.int .i64 ((rd_T25 l0 x26_2).f0)) ∧ w'.cell? ⟨gb336, 1, none⟩ = some (.int .i64 ((rd_T25 l0 x26_2).f1)) ∧ w'.cell? ⟨gb336, 2, none⟩ = some (.int .i64 ((rd_T25 l0 x26_2).f2)) ∧ w'.cell? ⟨gb336, 3, none⟩ = some (.int .i64 ((rd_T25 l0 x26_2).f3)) ∧ w'.cell? ⟨gb336, 4, none⟩ = some (.int .i64 ((rd_T25 l0 x26_2).f4)) ∧ w'.cell? ⟨gb336, 5, none⟩ = some (.bool ((rd_T25 l0 x26_2).f5)) ∧ w'.cell? ⟨gb329, 0, none⟩ = some (.int .i64 a1_0) ∧ w'.cell? ⟨gb329, 1, none⟩ = some (.int .i64 a1_1) ∧ w'.cell? ⟨gb329, 2, none⟩ = some (.int .i64 a1_2) ∧ w'.cell? ⟨gb329, 3, none⟩ = some (.int .i64 a1_3) ∧ w'.cell? ⟨gb329, 4, none⟩ = some (.int .i64 a1_4) ∧ w'.cell? ⟨gb329, 5, none⟩ = some (.bool a1_5) ∧ w'.cell? (ad335.add ((x7_2).toNat * 6)) = some (.int .i64 ((rd_T25 l0 x7_2).f0)) ∧ w'.cell? ⟨(ad335.add ((x7_2).toNat * 6)).block, (ad335.add ((x7_2).toNat * 6)).off + 1, none⟩ = some (.int .i64 ((rd_T25 l0 x7_2).f1)) ∧ w'.cell? ⟨(ad335.add ((x7_2).toNat * 6)).block, (ad335.add ((x7_2).toNat * 6)).off + 2, none⟩ = some (.int .i64 ((rd_T25 l0 x7_2).f2)) ∧ w'.cell? ⟨(ad335.add ((x7_2).toNat * 6)).block, (ad335.add ((x7_2).toNat * 6)).off + 3, none⟩ = some (.int .i64 ((rd_T25 l0 x7_2).f3)) ∧ w'.cell? ⟨(ad335.add ((x7_2).toNat * 6)).block, (ad335.add ((x7_2).toNat * 6)).off + 4, none⟩ = some (.int .i64 ((rd_T25 l0 x7_2).f4)) ∧ w'.cell? ⟨(ad335.add ((x7_2).toNat * 6)).block, (ad335.add ((x7_2).toNat * 6)).off + 5, none⟩ = some (.bool ((rd_T25 l0 x7_2).f5))) (ds := []) #[false, false, false, false, false, false, false, false, false, false] (by kernel_rfl) rfl rfl ⟨(blk_cell BK336.out 0).trans rfl, (blk_cell BK336.out 1).trans rfl, (blk_cell BK336.out 2).trans rfl, (blk_cell BK336.out 3).trans rfl, (blk_cell BK336.out 4).trans rfl, (blk_cell BK336.out 5).trans rfl, (blk_cell BK329.out 0).trans rfl, (blk_cell BK329.out 1).trans rfl, (blk_cell BK329.out 2).trans rfl, (blk_cell BK329.out 3).trans rfl, (blk_cell BK329.out 4).trans rfl, (blk_cell BK329.out 5).trans rfl, ((HB.out.cell (World.block_lt_of_cell? w _ hw338_0)).trans hw338_0), ((HB.out.cell (World.block_lt_of_cell? w _ hw338_1)).trans hw338_1), ((HB.out.cell (World.block_lt_of_cell? w _ hw338_2)).trans hw338_2), ((HB.out.cell (World.block_lt_of_cell? w _ hw338_3)).trans hw338_3), ((HB.out.cell (World.block_lt_of_cell? w _ hw338_4)).trans hw338_4), ((HB.out.cell (World.block_lt_of_cell? w _ hw338_5)).trans hw338_5)⟩ (fun hHeld => ?_); refine with_tabW impl_NearestShape.tab7 impl_NearestShape.bits7 (fun HT_ HW_ => ?_)
             generalize w27.drew = w28 at BK329 BK336 HB hx338_0 hx338_1 hx338_2 hx338_3 hx338_4 hx338_5 hHeld ⊢
             refine pure_ (i := 3) (N := some 34) (v := ?_) (a' := ?_) #[false, false, false, true, false, false, false, false, false, false] rfl rfl (any_of HT_.out (by kernel_rfl)) (fun _ _ _ h => h) (Or.inl ⟨by rfl, ?_⟩) ?_ ?_
             rotate_left
             ·
              intro w'
              go_simp
              with_reducible rfl
             rotate_left
             · simp only [Act.put, List.setIfInBounds_toArray, List.set_cons_zero, List.set_cons_succ, i64_w, i32_w]
               rfl
             refine pure_ (i := 4) (N := some 35) (v := ?_) (a' := ?_) #[false, false, false, true, true, false, false, false, false, false] rfl rfl (any_of HT_.out (by kernel_rfl)) (fun _ _ _ h => h) (Or.inl ⟨by rfl, ?_⟩) ?_ ?_
             rotate_left
             ·
              intro w'
              go_simp
              with_reducible rfl
             rotate_left
             · simp only [Act.put, List.setIfInBounds_toArray, List.set_cons_zero, List.set_cons_succ, i64_w, i32_w]
               rfl
             refine pure_ (i := 5) (N := some 36) (v := ?_) (a' := ?_) #[false, false, false, true, true, true, false, false, false, false] rfl rfl (any_of HT_.out (by kernel_rfl)) (fun _ _ _ h => h) (Or.inl ⟨by rfl, ?_⟩) ?_ ?_
             rotate_left
             ·
              intro w'
              go_simp
              with_reducible rfl
             rotate_left
             · simp only [Act.put, List.setIfInBounds_toArray, List.set_cons_zero, List.set_cons_succ, i64_w, i32_w]
               rfl
             refine take_ (i := 0) (N := some 31) (v := ?_) (a' := ?_) #[true, false, false, true, true, true, false, false, false, false] rfl rfl (take_ofW HT_.out HW_.out (by kernel_rfl)) (fun _ _ _ h => h) (Or.inl ⟨by rfl, ?_⟩) hHeld ?_ ?_
             rotate_left
             ·
              rintro w' ⟨s0, s1, s2, s3, s4, s5, s6, s7, s8, s9, s10, s11, s12, s13, s14, s15, s16, s17⟩
              go_simp
              with_reducible rfl
             rotate_left
             · simp only [Act.put, List.setIfInBounds_toArray, List.set_cons_zero, List.set_cons_succ, i64_w, i32_w]
               rfl
             refine take_ (i := 1) (N := some 32) (v := ?_) (a' := ?_) #[true, true, false, true, true, true, false, false, false, false] rfl rfl (take_ofW HT_.out HW_.out (by kernel_rfl)) (fun _ _ _ h => h) (Or.inl ⟨by rfl, ?_⟩) hHeld ?_ ?_
             rotate_left
             ·
              rintro w' ⟨s0, s1, s2, s3, s4, s5, s6, s7, s8, s9, s10, s11, s12, s13, s14, s15, s16, s17⟩
              go_simp
              with_reducible rfl
             rotate_left
             · simp only [Act.put, List.setIfInBounds_toArray, List.set_cons_zero, List.set_cons_succ, i64_w, i32_w]
               rfl
             refine take_ (i := 6) (N := some 37) (v := ?_) (a' := ?_) #[true, true, false, true, true, true, true, false, false, false] rfl rfl (take_ofW HT_.out HW_.out (by kernel_rfl)) (fun _ _ _ h => h) (Or.inl ⟨by rfl, ?_⟩) hHeld ?_ ?_
             rotate_left
             ·
              rintro w' ⟨s0, s1, s2, s3, s4, s5, s6, s7, s8, s9, s10, s11, s12, s13, s14, s15, s16, s17⟩
              go_simp
              with_reducible rfl
             rotate_left
             · simp only [Act.put, List.setIfInBounds_toArray, List.set_cons_zero, List.set_cons_succ, i64_w, i32_w]
               rfl
             refine take_ (i := 7) (N := some 38) (v := ?_) (a' := ?_) #[true, true, false, true, true, true, true, true, false, false] rfl rfl (take_ofW HT_.out HW_.out (by kernel_rfl)) (fun _ _ _ h => h) (Or.inl ⟨by rfl, ?_⟩) hHeld ?_ ?_
             rotate_left
             ·
              rintro w' ⟨s0, s1, s2, s3, s4, s5, s6, s7, s8, s9, s10, s11, s12, s13, s14, s15, s16, s17⟩
              go_simp
              with_reducible rfl
             rotate_left
             · simp only [Act.put, List.setIfInBounds_toArray, List.set_cons_zero, List.set_cons_succ, i64_w, i32_w]
               rfl
             refine one_ (i := 2) (N := some 33) #[true, true, true, true, true, true, true, true, false, false] rfl rfl (one_of HT_.out (by kernel_rfl)) (by decide) (fun K hK => ?_)
             refine goes_ Try.func59 (by kernel_rfl) rfl #[.agg #[.int .i64 ((rd_T25 l0 x26_2).f0), .int .i64 ((rd_T25 l0 x26_2).f1), .int .i64 ((rd_T25 l0 x26_2).f2), .int .i64 ((rd_T25 l0 x26_2).f3), .int .i64 ((rd_T25 l0 x26_2).f4), .bool ((rd_T25 l0 x26_2).f5)], .agg #[.int .i64 a1_0, .int .i64 a1_1, .int .i64 a1_2, .int .i64 a1_3, .int .i64 a1_4, .bool a1_5]] (by rfl) rfl rfl (by (try simp only [List.map_toArray, List.map_cons, List.map_nil]); first | done | rfl | (simp only [List.length_drop, List.length_take]; rfl)) ?_
             with_reducible refine (impl_Shape_distance.calls k2 ((rd_T25 l0 x26_2).f0) ((rd_T25 l0 x26_2).f1) ((rd_T25 l0 x26_2).f2) ((rd_T25 l0 x26_2).f3) ((rd_T25 l0 x26_2).f4) ((rd_T25 l0 x26_2).f5) a1_0 a1_1 a1_2 a1_3 a1_4 a1_5 t337 _ A19.out).mono ?_
             rintro e w29 ⟨rfl, hb⟩
             refine ⟨_, rfl, ?_⟩
             have n0_ := Aside0.mk (blk_below (g := gb329) (o := .cells #[.int .i64 a1_0, .int .i64 a1_1, .int .i64 a1_2, .int .i64 a1_3, .int .i64 a1_4, .bool a1_5] 25 (0, 0)) (by exact BK329.out) hb)
             have n1_ := Aside0.mk (blk_below (g := gb336) (o := .cells #[.int .i64 ((rd_T25 l0 x26_2).f0), .int .i64 ((rd_T25 l0 x26_2).f1), .int .i64 ((rd_T25 l0 x26_2).f2), .int .i64 ((rd_T25 l0 x26_2).f3), .int .i64 ((rd_T25 l0 x26_2).f4), .bool ((rd_T25 l0 x26_2).f5)] 25 (0, 0)) (by exact BK336.out) hb)
             have n2_ := Aside0.mk (below_step (by repeat (first | (with_reducible first | exact HB.out | apply below_alloc | apply pw_below_drewN | apply below_drew1 | refine below_set ?_ GE329.out | refine below_set ?_ GE336.out) | exact HB.out)) hb)
             clear BK329
             clear BK336
             clear HB
             have BK329 := n0_
             have BK336 := n1_
             have HB := n2_
             clear n0_ n1_ n2_
             (try clear hb)
             (try clear hb2)
             (try clear hk)
             (try clear hi)
             refine hK.out _ _ ⟨(blk_cell BK336.out 0).trans rfl, (blk_cell BK336.out 1).trans rfl, (blk_cell BK336.out 2).trans rfl, (blk_cell BK336.out 3).trans rfl, (blk_cell BK336.out 4).trans rfl, (blk_cell BK336.out 5).trans rfl, (blk_cell BK329.out 0).trans rfl, (blk_cell BK329.out 1).trans rfl, (blk_cell BK329.out 2).trans rfl, (blk_cell BK329.out 3).trans rfl, (blk_cell BK329.out 4).trans rfl, (blk_cell BK329.out 5).trans rfl, ((HB.out.cell (World.block_lt_of_cell? w _ hw338_0)).trans hw338_0), ((HB.out.cell (World.block_lt_of_cell? w _ hw338_1)).trans hw338_1), ((HB.out.cell (World.block_lt_of_cell? w _ hw338_2)).trans hw338_2), ((HB.out.cell (World.block_lt_of_cell? w _ hw338_3)).trans hw338_3), ((HB.out.cell (World.block_lt_of_cell? w _ hw338_4)).trans hw338_4), ((HB.out.cell (World.block_lt_of_cell? w _ hw338_5)).trans hw338_5)⟩ (fun hHeld => ?_)
             clear hK K
             refine norm_ (a' := ?_) ?_ ?_
             rotate_left
             ·
              show Act.put _ (some 33) _ = _
              simp only [Act.put, List.setIfInBounds_toArray, List.set_cons_zero, List.set_cons_succ, i64_w, i32_w]
              rfl
             refine one_ (i := 8) (N := some 39) #[true, true, true, true, true, true, true, true, true, false] rfl rfl (one_of HT_.out (by kernel_rfl)) (by decide) (fun K hK => ?_)
             refine goes_ Try.func59 (by kernel_rfl) rfl #[.agg #[.int .i64 ((rd_T25 l0 x7_2).f0), .int .i64 ((rd_T25 l0 x7_2).f1), .int .i64 ((rd_T25 l0 x7_2).f2), .int .i64 ((rd_T25 l0 x7_2).f3), .int .i64 ((rd_T25 l0 x7_2).f4), .bool ((rd_T25 l0 x7_2).f5)], .agg #[.int .i64 a1_0, .int .i64 a1_1, .int .i64 a1_2, .int .i64 a1_3, .int .i64 a1_4, .bool a1_5]] (by rfl) rfl rfl (by (try simp only [List.map_toArray, List.map_cons, List.map_nil]); first | done | rfl | (simp only [List.length_drop, List.length_take]; rfl)) ?_
             with_reducible refine (impl_Shape_distance.calls k2 ((rd_T25 l0 x7_2).f0) ((rd_T25 l0 x7_2).f1) ((rd_T25 l0 x7_2).f2) ((rd_T25 l0 x7_2).f3) ((rd_T25 l0 x7_2).f4) ((rd_T25 l0 x7_2).f5) a1_0 a1_1 a1_2 a1_3 a1_4 a1_5 t339 _ A22.out).mono ?_
             rintro e w30 ⟨rfl, hb⟩
             refine ⟨_, rfl, ?_⟩
             have n0_ := Aside0.mk (blk_below (g := gb329) (o := .cells #[.int .i64 a1_0, .int .i64 a1_1, .int .i64 a1_2, .int .i64 a1_3, .int .i64 a1_4, .bool a1_5] 25 (0, 0)) (by exact BK329.out) hb)
             have n1_ := Aside0.mk (blk_below (g := gb336) (o := .cells #[.int .i64 ((rd_T25 l0 x26_2).f0), .int .i64 ((rd_T25 l0 x26_2).f1), .int .i64 ((rd_T25 l0 x26_2).f2), .int .i64 ((rd_T25 l0 x26_2).f3), .int .i64 ((rd_T25 l0 x26_2).f4), .bool ((rd_T25 l0 x26_2).f5)] 25 (0, 0)) (by exact BK336.out) hb)
             have n2_ := Aside0.mk (below_step (by repeat (first | (with_reducible first | exact HB.out | apply below_alloc | apply pw_below_drewN | apply below_drew1 | refine below_set ?_ GE329.out | refine below_set ?_ GE336.out) | exact HB.out)) hb)
             clear BK329
             clear BK336
             clear HB
             have BK329 := n0_
             have BK336 := n1_
             have HB := n2_
             clear n0_ n1_ n2_
             (try clear hb)
             (try clear hb2)
             (try clear hk)
             (try clear hi)
             refine hK.out _ _ ⟨(blk_cell BK336.out 0).trans rfl, (blk_cell BK336.out 1).trans rfl, (blk_cell BK336.out 2).trans rfl, (blk_cell BK336.out 3).trans rfl, (blk_cell BK336.out 4).trans rfl, (blk_cell BK336.out 5).trans rfl, (blk_cell BK329.out 0).trans rfl, (blk_cell BK329.out 1).trans rfl, (blk_cell BK329.out 2).trans rfl, (blk_cell BK329.out 3).trans rfl, (blk_cell BK329.out 4).trans rfl, (blk_cell BK329.out 5).trans rfl, ((HB.out.cell (World.block_lt_of_cell? w _ hw338_0)).trans hw338_0), ((HB.out.cell (World.block_lt_of_cell? w _ hw338_1)).trans hw338_1), ((HB.out.cell (World.block_lt_of_cell? w _ hw338_2)).trans hw338_2), ((HB.out.cell (World.block_lt_of_cell? w _ hw338_3)).trans hw338_3), ((HB.out.cell (World.block_lt_of_cell? w _ hw338_4)).trans hw338_4), ((HB.out.cell (World.block_lt_of_cell? w _ hw338_5)).trans hw338_5)⟩ (fun hHeld => ?_)
             clear hK K
             refine norm_ (a' := ?_) ?_ ?_
             rotate_left
             ·
              show Act.put _ (some 39) _ = _
              simp only [Act.put, List.setIfInBounds_toArray, List.set_cons_zero, List.set_cons_succ, i64_w, i32_w]
              rfl
             refine pure_ (i := 9) (N := some 40) (v := ?_) (a' := ?_) #[true, true, true, true, true, true, true, true, true, true] rfl rfl (any_of HT_.out (by kernel_rfl)) (fun _ _ _ h => h) (Or.inl ⟨by rfl, ?_⟩) ?_ ?_
             rotate_left
             ·
              intro w'
              go_simp
              with_reducible rfl
             rotate_left
             · simp only [Act.put, List.setIfInBounds_toArray, List.set_cons_zero, List.set_cons_succ, i64_w, i32_w]
               rfl
             refine done_ (done_of HT_.out (by kernel_rfl)) ?_
             try go_wp2
             go_roundg k2
             case measure => have := HJ2.out; have := HK2.out; omega
             case rel => exact ⟨(x26_2), (wrap64 (x26_2 + 1)), (by first | rfl | (simp; done) | (simp [*]; done)), (by first | rfl | (simp; done) | (simp [*]; done)), H', ⟨by have := HJ2.out; have := HK2.out; omega⟩, ⟨by exact BK329.out⟩, ⟨by repeat (first | (with_reducible first | exact HB.out | apply below_alloc | apply pw_below_drewN | apply below_drew1 | refine below_set ?_ GE329.out | refine below_set ?_ GE336.out) | exact HB.out)⟩⟩
            ·
             rw [if_neg c23] at H
             have c23b0 : decide (t337 < t339) = false := decide_eq_false c23
             clear c23
             have H' := Aside0.mk H
             clear H
             have p335 : 0 ≤ (x26_2 : Int) := of_decide_eq_true (by first | (with_reducible assumption) | assumption)
             have q335 : x26_2 < (l0.length : Int) := of_decide_eq_true (by first | (with_reducible assumption) | assumption)
             obtain ⟨ad335, e335, hx335_0, hx335_1, hx335_2, hx335_3, hx335_4, hx335_5⟩ := at_T25 HR0.out x26_2 p335 q335
             cases e335
             replace hx335_0 := (HB.out.cell (World.block_lt_of_cell? w _ hx335_0)).trans hx335_0
             replace hx335_1 := (HB.out.cell (World.block_lt_of_cell? w _ hx335_1)).trans hx335_1
             replace hx335_2 := (HB.out.cell (World.block_lt_of_cell? w _ hx335_2)).trans hx335_2
             replace hx335_3 := (HB.out.cell (World.block_lt_of_cell? w _ hx335_3)).trans hx335_3
             replace hx335_4 := (HB.out.cell (World.block_lt_of_cell? w _ hx335_4)).trans hx335_4
             replace hx335_5 := (HB.out.cell (World.block_lt_of_cell? w _ hx335_5)).trans hx335_5
             replace p335 := eq_true p335
             replace q335 := eq_true q335
             try go_wp2_with (first | ((with_reducible refine gate_dst (N := 9) rfl ?_); refine box_event ?hg (N := 9) ?hd (cs := #[.int .i64 0, .int .i64 0, .int .i64 0, .int .i64 0, .int .i64 0, .bool false]) (t := 25) ?hr ?_; (case hd => rfl); (case hg => rfl); (case hr => first | (go_simp; done) | (go_simp; rfl)); intro gb336 hg w31 hbox hb; have n0_ := Aside0.mk (blk_below (g := gb329) (o := .cells #[.int .i64 a1_0, .int .i64 a1_1, .int .i64 a1_2, .int .i64 a1_3, .int .i64 a1_4, .bool a1_5] 25 (0, 0)) (by exact BK329.out) hb); have n1_ := Aside0.mk (below_step (by repeat (first | (with_reducible first | exact HB.out | apply below_alloc | apply pw_below_drewN | apply below_drew1 | refine below_set ?_ GE329.out) | exact HB.out)) hb); have n2_ := Aside0.mk (hbox); have n3_ := Aside0.mk ((by rw [hg]; exact (below_size (by repeat (first | (with_reducible first | exact HB.out | apply below_alloc | apply pw_below_drewN | apply below_drew1 | refine below_set ?_ GE329.out) | exact HB.out))) : w.heap.size ≤ gb336)); have n4_ := Aside0.mk ((by rw [hg]; exact (below_size (by repeat (first | (with_reducible first | exact HB.out | apply below_alloc | apply pw_below_drewN | apply below_drew1 | refine below_set ?_ GE329.out) | exact HB.out))) : w.heap.size ≤ gb336)); have n5_ := Aside0.mk ((by rw [hg]; exact Nat.ne_of_lt (blk_lt (g := gb329) (o := .cells #[.int .i64 a1_0, .int .i64 a1_1, .int .i64 a1_2, .int .i64 a1_3, .int .i64 a1_4, .bool a1_5] 25 (0, 0)) (by exact BK329.out)) : gb329 ≠ gb336)); have n6_ := Aside0.mk ((by rw [hg]; exact Nat.ne_of_gt (blk_lt (g := gb329) (o := .cells #[.int .i64 a1_0, .int .i64 a1_1, .int .i64 a1_2, .int .i64 a1_3, .int .i64 a1_4, .bool a1_5] 25 (0, 0)) (by exact BK329.out)) : gb336 ≠ gb329)); clear BK329; clear HB; have BK329 := n0_; have HB := n1_; have BK336 := n2_; have GW336 := n3_; have GE336 := n4_; have NB329_336 := n5_; have NB336_329 := n6_; clear n0_ n1_ n2_ n3_ n4_ n5_ n6_; clear hb hbox hg; have hnb32 := NB336_329.out; have hnc32 := NB329_336.out; have hcz33_0 : w31.cell? ⟨gb336, 0, none⟩ = some (.int .i64 0) := (blk_cell BK336.out 0).trans rfl; have hcz33_1 : w31.cell? ⟨gb336, 1, none⟩ = some (.int .i64 0) := (blk_cell BK336.out 1).trans rfl; have hcz33_2 : w31.cell? ⟨gb336, 2, none⟩ = some (.int .i64 0) := (blk_cell BK336.out 2).trans rfl; have hcz33_3 : w31.cell? ⟨gb336, 3, none⟩ = some (.int .i64 0) := (blk_cell BK336.out 3).trans rfl; have hcz33_4 : w31.cell? ⟨gb336, 4, none⟩ = some (.int .i64 0) := (blk_cell BK336.out 4).trans rfl; have hcz33_5 : w31.cell? ⟨gb336, 5, none⟩ = some (.bool false) := (blk_cell BK336.out 5).trans rfl; have hfz33_0 := blk_frozen BK336.out 0; have hfz33_1 := blk_frozen BK336.out 1; have hfz33_2 := blk_frozen BK336.out 2; have hfz33_3 := blk_frozen BK336.out 3; have hfz33_4 := blk_frozen BK336.out 4; have hfz33_5 := blk_frozen BK336.out 5))
             have n0_ : Aside0 (((((((w31.setCell ⟨gb336, 0, none⟩ (.int .i64 ((rd_T25 l0 x26_2).f0))).setCell ⟨gb336, 1, none⟩ (.int .i64 ((rd_T25 l0 x26_2).f1))).setCell ⟨gb336, 2, none⟩ (.int .i64 ((rd_T25 l0 x26_2).f2))).setCell ⟨gb336, 3, none⟩ (.int .i64 ((rd_T25 l0 x26_2).f3))).setCell ⟨gb336, 4, none⟩ (.int .i64 ((rd_T25 l0 x26_2).f4))).setCell ⟨gb336, 5, none⟩ (.bool ((rd_T25 l0 x26_2).f5))).heap[gb329]? = some (.cells #[.int .i64 a1_0, .int .i64 a1_1, .int .i64 a1_2, .int .i64 a1_3, .int .i64 a1_4, .bool a1_5] 25 (0, 0))) := ⟨by refine blk_far ?_ NB329_336.out _; refine blk_far ?_ NB329_336.out _; refine blk_far ?_ NB329_336.out _; refine blk_far ?_ NB329_336.out _; refine blk_far ?_ NB329_336.out _; refine blk_far ?_ NB329_336.out _; exact BK329.out⟩
             have n1_ : Aside0 (((((((w31.setCell ⟨gb336, 0, none⟩ (.int .i64 ((rd_T25 l0 x26_2).f0))).setCell ⟨gb336, 1, none⟩ (.int .i64 ((rd_T25 l0 x26_2).f1))).setCell ⟨gb336, 2, none⟩ (.int .i64 ((rd_T25 l0 x26_2).f2))).setCell ⟨gb336, 3, none⟩ (.int .i64 ((rd_T25 l0 x26_2).f3))).setCell ⟨gb336, 4, none⟩ (.int .i64 ((rd_T25 l0 x26_2).f4))).setCell ⟨gb336, 5, none⟩ (.bool ((rd_T25 l0 x26_2).f5))).heap[gb336]? = some (.cells #[.int .i64 ((rd_T25 l0 x26_2).f0), .int .i64 ((rd_T25 l0 x26_2).f1), .int .i64 ((rd_T25 l0 x26_2).f2), .int .i64 ((rd_T25 l0 x26_2).f3), .int .i64 ((rd_T25 l0 x26_2).f4), .bool ((rd_T25 l0 x26_2).f5)] 25 (0, 0))) := ⟨by refine blk_put (cs := #[.int .i64 ((rd_T25 l0 x26_2).f0), .int .i64 ((rd_T25 l0 x26_2).f1), .int .i64 ((rd_T25 l0 x26_2).f2), .int .i64 ((rd_T25 l0 x26_2).f3), .int .i64 ((rd_T25 l0 x26_2).f4), .bool false]) ?_ 5 _ rfl; refine blk_put (cs := #[.int .i64 ((rd_T25 l0 x26_2).f0), .int .i64 ((rd_T25 l0 x26_2).f1), .int .i64 ((rd_T25 l0 x26_2).f2), .int .i64 ((rd_T25 l0 x26_2).f3), .int .i64 0, .bool false]) ?_ 4 _ rfl; refine blk_put (cs := #[.int .i64 ((rd_T25 l0 x26_2).f0), .int .i64 ((rd_T25 l0 x26_2).f1), .int .i64 ((rd_T25 l0 x26_2).f2), .int .i64 0, .int .i64 0, .bool false]) ?_ 3 _ rfl; refine blk_put (cs := #[.int .i64 ((rd_T25 l0 x26_2).f0), .int .i64 ((rd_T25 l0 x26_2).f1), .int .i64 0, .int .i64 0, .int .i64 0, .bool false]) ?_ 2 _ rfl; refine blk_put (cs := #[.int .i64 ((rd_T25 l0 x26_2).f0), .int .i64 0, .int .i64 0, .int .i64 0, .int .i64 0, .bool false]) ?_ 1 _ rfl; refine blk_put (cs := #[.int .i64 0, .int .i64 0, .int .i64 0, .int .i64 0, .int .i64 0, .bool false]) ?_ 0 _ rfl; exact BK336.out⟩
             have n2_ : Aside0 (Below w.heap.size w ((((((w31.setCell ⟨gb336, 0, none⟩ (.int .i64 ((rd_T25 l0 x26_2).f0))).setCell ⟨gb336, 1, none⟩ (.int .i64 ((rd_T25 l0 x26_2).f1))).setCell ⟨gb336, 2, none⟩ (.int .i64 ((rd_T25 l0 x26_2).f2))).setCell ⟨gb336, 3, none⟩ (.int .i64 ((rd_T25 l0 x26_2).f3))).setCell ⟨gb336, 4, none⟩ (.int .i64 ((rd_T25 l0 x26_2).f4))).setCell ⟨gb336, 5, none⟩ (.bool ((rd_T25 l0 x26_2).f5)))) := ⟨by repeat (first | (with_reducible first | exact HB.out | apply below_alloc | apply pw_below_drewN | apply below_drew1 | refine below_set ?_ GE329.out | refine below_set ?_ GE336.out) | exact HB.out)⟩
             (try clear BK329)
             (try clear BK336)
             (try clear HB)
             generalize ((((((w31.setCell ⟨gb336, 0, none⟩ (.int .i64 ((rd_T25 l0 x26_2).f0))).setCell ⟨gb336, 1, none⟩ (.int .i64 ((rd_T25 l0 x26_2).f1))).setCell ⟨gb336, 2, none⟩ (.int .i64 ((rd_T25 l0 x26_2).f2))).setCell ⟨gb336, 3, none⟩ (.int .i64 ((rd_T25 l0 x26_2).f3))).setCell ⟨gb336, 4, none⟩ (.int .i64 ((rd_T25 l0 x26_2).f4))).setCell ⟨gb336, 5, none⟩ (.bool ((rd_T25 l0 x26_2).f5))) = w34 at n0_ n1_ n2_ ⊢
             have BK329 := n0_
             have BK336 := n1_
             have HB := n2_
             clear n0_ n1_ n2_
             have n0_ := Aside0.mk (blk_drew BK329.out)
             have n1_ := Aside0.mk (blk_drew BK336.out)
             have n2_ := Aside0.mk (below_drew1 HB.out)
             clear BK329
             clear BK336
             clear HB
             have BK329 := n0_
             have BK336 := n1_
             have HB := n2_
             clear n0_ n1_ n2_
             have p338 : 0 ≤ (x7_2 : Int) := of_decide_eq_true (by first | (with_reducible assumption) | assumption)
             have q338 : x7_2 < (l0.length : Int) := of_decide_eq_true (by first | (with_reducible assumption) | assumption)
             obtain ⟨ad338, e338, hx338_0, hx338_1, hx338_2, hx338_3, hx338_4, hx338_5⟩ := at_T25 HR0.out x7_2 p338 q338
             have hw338_5 := hx338_5
             have hw338_4 := hx338_4
             have hw338_3 := hx338_3
             have hw338_2 := hx338_2
             have hw338_1 := hx338_1
             have hw338_0 := hx338_0
             obtain rfl : ad335 = ad338 := (by injection e338)
             replace hx338_0 := (HB.out.cell (World.block_lt_of_cell? w _ hx338_0)).trans hx338_0
             replace hx338_1 := (HB.out.cell (World.block_lt_of_cell? w _ hx338_1)).trans hx338_1
             replace hx338_2 := (HB.out.cell (World.block_lt_of_cell? w _ hx338_2)).trans hx338_2
             replace hx338_3 := (HB.out.cell (World.block_lt_of_cell? w _ hx338_3)).trans hx338_3
             replace hx338_4 := (HB.out.cell (World.block_lt_of_cell? w _ hx338_4)).trans hx338_4
             replace hx338_5 := (HB.out.cell (World.block_lt_of_cell? w _ hx338_5)).trans hx338_5
             replace p338 := eq_true p338
             replace q338 := eq_true q338
             refine start_ (n := 10) (S := fun w' => w'.cell? ⟨gb336, 0, none⟩ = some (.int .i64 ((rd_T25 l0 x26_2).f0)) ∧ w'.cell? ⟨gb336, 1, none⟩ = some (.int .i64 ((rd_T25 l0 x26_2).f1)) ∧ w'.cell? ⟨gb336, 2, none⟩ = some (.int .i64 ((rd_T25 l0 x26_2).f2)) ∧ w'.cell? ⟨gb336, 3, none⟩ = some (.int .i64 ((rd_T25 l0 x26_2).f3)) ∧ w'.cell? ⟨gb336, 4, none⟩ = some (.int .i64 ((rd_T25 l0 x26_2).f4)) ∧ w'.cell? ⟨gb336, 5, none⟩ = some (.bool ((rd_T25 l0 x26_2).f5)) ∧ w'.cell? ⟨gb329, 0, none⟩ = some (.int .i64 a1_0) ∧ w'.cell? ⟨gb329, 1, none⟩ = some (.int .i64 a1_1) ∧ w'.cell? ⟨gb329, 2, none⟩ = some (.int .i64 a1_2) ∧ w'.cell? ⟨gb329, 3, none⟩ = some (.int .i64 a1_3) ∧ w'.cell? ⟨gb329, 4, none⟩ = some (.int .i64 a1_4) ∧ w'.cell? ⟨gb329, 5, none⟩ = some (.bool a1_5) ∧ w'.cell? (ad335.add ((x7_2).toNat * 6)) = some (.int .i64 ((rd_T25 l0 x7_2).f0)) ∧ w'.cell? ⟨(ad335.add ((x7_2).toNat * 6)).block, (ad335.add ((x7_2).toNat * 6)).off + 1, none⟩ = some (.int .i64 ((rd_T25 l0 x7_2).f1)) ∧ w'.cell? ⟨(ad335.add ((x7_2).toNat * 6)).block, (ad335.add ((x7_2).toNat * 6)).off + 2, none⟩ = some (.int .i64 ((rd_T25 l0 x7_2).f2)) ∧ w'.cell? ⟨(ad335.add ((x7_2).toNat * 6)).block, (ad335.add ((x7_2).toNat * 6)).off + 3, none⟩ = some (.int .i64 ((rd_T25 l0 x7_2).f3)) ∧ w'.cell? ⟨(ad335.add ((x7_2).toNat * 6)).block, (ad335.add ((x7_2).toNat * 6)).off + 4, none⟩ = some (.int .i64 ((rd_T25 l0 x7_2).f4)) ∧ w'.cell? ⟨(ad335.add ((x7_2).toNat * 6)).block, (ad335.add ((x7_2).toNat * 6)).off + 5, none⟩ = some (.bool ((rd_T25 l0 x7_2).f5))) (ds := []) #[false, false, false, false, false, false, false, false, false, false] (by kernel_rfl) rfl rfl ⟨(blk_cell BK336.out 0).trans rfl, (blk_cell BK336.out 1).trans rfl, (blk_cell BK336.out 2).trans rfl, (blk_cell BK336.out 3).trans rfl, (blk_cell BK336.out 4).trans rfl, (blk_cell BK336.out 5).trans rfl, (blk_cell BK329.out 0).trans rfl, (blk_cell BK329.out 1).trans rfl, (blk_cell BK329.out 2).trans rfl, (blk_cell BK329.out 3).trans rfl, (blk_cell BK329.out 4).trans rfl, (blk_cell BK329.out 5).trans rfl, ((HB.out.cell (World.block_lt_of_cell? w _ hw338_0)).trans hw338_0), ((HB.out.cell (World.block_lt_of_cell? w _ hw338_1)).trans hw338_1), ((HB.out.cell (World.block_lt_of_cell? w _ hw338_2)).trans hw338_2), ((HB.out.cell (World.block_lt_of_cell? w _ hw338_3)).trans hw338_3), ((HB.out.cell (World.block_lt_of_cell? w _ hw338_4)).trans hw338_4), ((HB.out.cell (World.block_lt_of_cell? w _ hw338_5)).trans hw338_5)⟩ (fun hHeld => ?_); refine with_tabW impl_NearestShape.tab7 impl_NearestShape.bits7 (fun HT_ HW_ => ?_)
             generalize w34.drew = w35 at BK329 BK336 HB hx338_0 hx338_1 hx338_2 hx338_3 hx338_4 hx338_5 hHeld ⊢
             refine pure_ (i := 3) (N := some 34) (v := ?_) (a' := ?_) #[false, false, false, true, false, false, false, false, false, false] rfl rfl (any_of HT_.out (by kernel_rfl)) (fun _ _ _ h => h) (Or.inl ⟨by rfl, ?_⟩) ?_ ?_
             rotate_left
             ·
              intro w'
              go_simp
              with_reducible rfl
             rotate_left
             · simp only [Act.put, List.setIfInBounds_toArray, List.set_cons_zero, List.set_cons_succ, i64_w, i32_w]
               rfl
             refine pure_ (i := 4) (N := some 35) (v := ?_) (a' := ?_) #[false, false, false, true, true, false, false, false, false, false] rfl rfl (any_of HT_.out (by kernel_rfl)) (fun _ _ _ h => h) (Or.inl ⟨by rfl, ?_⟩) ?_ ?_
             rotate_left
             ·
              intro w'
              go_simp
              with_reducible rfl
             rotate_left
             · simp only [Act.put, List.setIfInBounds_toArray, List.set_cons_zero, List.set_cons_succ, i64_w, i32_w]
               rfl
             refine pure_ (i := 5) (N := some 36) (v := ?_) (a' := ?_) #[false, false, false, true, true, true, false, false, false, false] rfl rfl (any_of HT_.out (by kernel_rfl)) (fun _ _ _ h => h) (Or.inl ⟨by rfl, ?_⟩) ?_ ?_
             rotate_left
             ·
              intro w'
              go_simp
              with_reducible rfl
             rotate_left
             · simp only [Act.put, List.setIfInBounds_toArray, List.set_cons_zero, List.set_cons_succ, i64_w, i32_w]
               rfl
             refine take_ (i := 0) (N := some 31) (v := ?_) (a' := ?_) #[true, false, false, true, true, true, false, false, false, false] rfl rfl (take_ofW HT_.out HW_.out (by kernel_rfl)) (fun _ _ _ h => h) (Or.inl ⟨by rfl, ?_⟩) hHeld ?_ ?_
             rotate_left
             ·
              rintro w' ⟨s0, s1, s2, s3, s4, s5, s6, s7, s8, s9, s10, s11, s12, s13, s14, s15, s16, s17⟩
              go_simp
              with_reducible rfl
             rotate_left
             · simp only [Act.put, List.setIfInBounds_toArray, List.set_cons_zero, List.set_cons_succ, i64_w, i32_w]
               rfl
             refine take_ (i := 1) (N := some 32) (v := ?_) (a' := ?_) #[true, true, false, true, true, true, false, false, false, false] rfl rfl (take_ofW HT_.out HW_.out (by kernel_rfl)) (fun _ _ _ h => h) (Or.inl ⟨by rfl, ?_⟩) hHeld ?_ ?_
             rotate_left
             ·
              rintro w' ⟨s0, s1, s2, s3, s4, s5, s6, s7, s8, s9, s10, s11, s12, s13, s14, s15, s16, s17⟩
              go_simp
              with_reducible rfl
             rotate_left
             · simp only [Act.put, List.setIfInBounds_toArray, List.set_cons_zero, List.set_cons_succ, i64_w, i32_w]
               rfl
             refine take_ (i := 6) (N := some 37) (v := ?_) (a' := ?_) #[true, true, false, true, true, true, true, false, false, false] rfl rfl (take_ofW HT_.out HW_.out (by kernel_rfl)) (fun _ _ _ h => h) (Or.inl ⟨by rfl, ?_⟩) hHeld ?_ ?_
             rotate_left
             ·
              rintro w' ⟨s0, s1, s2, s3, s4, s5, s6, s7, s8, s9, s10, s11, s12, s13, s14, s15, s16, s17⟩
              go_simp
              with_reducible rfl
             rotate_left
             · simp only [Act.put, List.setIfInBounds_toArray, List.set_cons_zero, List.set_cons_succ, i64_w, i32_w]
               rfl
             refine take_ (i := 7) (N := some 38) (v := ?_) (a' := ?_) #[true, true, false, true, true, true, true, true, false, false] rfl rfl (take_ofW HT_.out HW_.out (by kernel_rfl)) (fun _ _ _ h => h) (Or.inl ⟨by rfl, ?_⟩) hHeld ?_ ?_
             rotate_left
             ·
              rintro w' ⟨s0, s1, s2, s3, s4, s5, s6, s7, s8, s9, s10, s11, s12, s13, s14, s15, s16, s17⟩
              go_simp
              with_reducible rfl
             rotate_left
             · simp only [Act.put, List.setIfInBounds_toArray, List.set_cons_zero, List.set_cons_succ, i64_w, i32_w]
               rfl
             refine one_ (i := 2) (N := some 33) #[true, true, true, true, true, true, true, true, false, false] rfl rfl (one_of HT_.out (by kernel_rfl)) (by decide) (fun K hK => ?_)
             refine goes_ Try.func59 (by kernel_rfl) rfl #[.agg #[.int .i64 ((rd_T25 l0 x26_2).f0), .int .i64 ((rd_T25 l0 x26_2).f1), .int .i64 ((rd_T25 l0 x26_2).f2), .int .i64 ((rd_T25 l0 x26_2).f3), .int .i64 ((rd_T25 l0 x26_2).f4), .bool ((rd_T25 l0 x26_2).f5)], .agg #[.int .i64 a1_0, .int .i64 a1_1, .int .i64 a1_2, .int .i64 a1_3, .int .i64 a1_4, .bool a1_5]] (by rfl) rfl rfl (by (try simp only [List.map_toArray, List.map_cons, List.map_nil]); first | done | rfl | (simp only [List.length_drop, List.length_take]; rfl)) ?_
             with_reducible refine (impl_Shape_distance.calls k2 ((rd_T25 l0 x26_2).f0) ((rd_T25 l0 x26_2).f1) ((rd_T25 l0 x26_2).f2) ((rd_T25 l0 x26_2).f3) ((rd_T25 l0 x26_2).f4) ((rd_T25 l0 x26_2).f5) a1_0 a1_1 a1_2 a1_3 a1_4 a1_5 t337 _ A19.out).mono ?_
             rintro e w36 ⟨rfl, hb⟩
             refine ⟨_, rfl, ?_⟩
             have n0_ := Aside0.mk (blk_below (g := gb329) (o := .cells #[.int .i64 a1_0, .int .i64 a1_1, .int .i64 a1_2, .int .i64 a1_3, .int .i64 a1_4, .bool a1_5] 25 (0, 0)) (by exact BK329.out) hb)
             have n1_ := Aside0.mk (blk_below (g := gb336) (o := .cells #[.int .i64 ((rd_T25 l0 x26_2).f0), .int .i64 ((rd_T25 l0 x26_2).f1), .int .i64 ((rd_T25 l0 x26_2).f2), .int .i64 ((rd_T25 l0 x26_2).f3), .int .i64 ((rd_T25 l0 x26_2).f4), .bool ((rd_T25 l0 x26_2).f5)] 25 (0, 0)) (by exact BK336.out) hb)
             have n2_ := Aside0.mk (below_step (by repeat (first | (with_reducible first | exact HB.out | apply below_alloc | apply pw_below_drewN | apply below_drew1 | refine below_set ?_ GE329.out | refine below_set ?_ GE336.out) | exact HB.out)) hb)
             clear BK329
             clear BK336
             clear HB
             have BK329 := n0_
             have BK336 := n1_
             have HB := n2_
             clear n0_ n1_ n2_
             (try clear hb)
             (try clear hb2)
             (try clear hk)
             (try clear hi)
             refine hK.out _ _ ⟨(blk_cell BK336.out 0).trans rfl, (blk_cell BK336.out 1).trans rfl, (blk_cell BK336.out 2).trans rfl, (blk_cell BK336.out 3).trans rfl, (blk_cell BK336.out 4).trans rfl, (blk_cell BK336.out 5).trans rfl, (blk_cell BK329.out 0).trans rfl, (blk_cell BK329.out 1).trans rfl, (blk_cell BK329.out 2).trans rfl, (blk_cell BK329.out 3).trans rfl, (blk_cell BK329.out 4).trans rfl, (blk_cell BK329.out 5).trans rfl, ((HB.out.cell (World.block_lt_of_cell? w _ hw338_0)).trans hw338_0), ((HB.out.cell (World.block_lt_of_cell? w _ hw338_1)).trans hw338_1), ((HB.out.cell (World.block_lt_of_cell? w _ hw338_2)).trans hw338_2), ((HB.out.cell (World.block_lt_of_cell? w _ hw338_3)).trans hw338_3), ((HB.out.cell (World.block_lt_of_cell? w _ hw338_4)).trans hw338_4), ((HB.out.cell (World.block_lt_of_cell? w _ hw338_5)).trans hw338_5)⟩ (fun hHeld => ?_)
             clear hK K
             refine norm_ (a' := ?_) ?_ ?_
             rotate_left
             ·
              show Act.put _ (some 33) _ = _
              simp only [Act.put, List.setIfInBounds_toArray, List.set_cons_zero, List.set_cons_succ, i64_w, i32_w]
              rfl
             refine one_ (i := 8) (N := some 39) #[true, true, true, true, true, true, true, true, true, false] rfl rfl (one_of HT_.out (by kernel_rfl)) (by decide) (fun K hK => ?_)
             refine goes_ Try.func59 (by kernel_rfl) rfl #[.agg #[.int .i64 ((rd_T25 l0 x7_2).f0), .int .i64 ((rd_T25 l0 x7_2).f1), .int .i64 ((rd_T25 l0 x7_2).f2), .int .i64 ((rd_T25 l0 x7_2).f3), .int .i64 ((rd_T25 l0 x7_2).f4), .bool ((rd_T25 l0 x7_2).f5)], .agg #[.int .i64 a1_0, .int .i64 a1_1, .int .i64 a1_2, .int .i64 a1_3, .int .i64 a1_4, .bool a1_5]] (by rfl) rfl rfl (by (try simp only [List.map_toArray, List.map_cons, List.map_nil]); first | done | rfl | (simp only [List.length_drop, List.length_take]; rfl)) ?_
             with_reducible refine (impl_Shape_distance.calls k2 ((rd_T25 l0 x7_2).f0) ((rd_T25 l0 x7_2).f1) ((rd_T25 l0 x7_2).f2) ((rd_T25 l0 x7_2).f3) ((rd_T25 l0 x7_2).f4) ((rd_T25 l0 x7_2).f5) a1_0 a1_1 a1_2 a1_3 a1_4 a1_5 t339 _ A22.out).mono ?_
             rintro e w37 ⟨rfl, hb⟩
             refine ⟨_, rfl, ?_⟩
             have n0_ := Aside0.mk (blk_below (g := gb329) (o := .cells #[.int .i64 a1_0, .int .i64 a1_1, .int .i64 a1_2, .int .i64 a1_3, .int .i64 a1_4, .bool a1_5] 25 (0, 0)) (by exact BK329.out) hb)
             have n1_ := Aside0.mk (blk_below (g := gb336) (o := .cells #[.int .i64 ((rd_T25 l0 x26_2).f0), .int .i64 ((rd_T25 l0 x26_2).f1), .int .i64 ((rd_T25 l0 x26_2).f2), .int .i64 ((rd_T25 l0 x26_2).f3), .int .i64 ((rd_T25 l0 x26_2).f4), .bool ((rd_T25 l0 x26_2).f5)] 25 (0, 0)) (by exact BK336.out) hb)
             have n2_ := Aside0.mk (below_step (by repeat (first | (with_reducible first | exact HB.out | apply below_alloc | apply pw_below_drewN | apply below_drew1 | refine below_set ?_ GE329.out | refine below_set ?_ GE336.out) | exact HB.out)) hb)
             clear BK329
             clear BK336
             clear HB
             have BK329 := n0_
             have BK336 := n1_
             have HB := n2_
             clear n0_ n1_ n2_
             (try clear hb)
             (try clear hb2)
             (try clear hk)
             (try clear hi)
             refine hK.out _ _ ⟨(blk_cell BK336.out 0).trans rfl, (blk_cell BK336.out 1).trans rfl, (blk_cell BK336.out 2).trans rfl, (blk_cell BK336.out 3).trans rfl, (blk_cell BK336.out 4).trans rfl, (blk_cell BK336.out 5).trans rfl, (blk_cell BK329.out 0).trans rfl, (blk_cell BK329.out 1).trans rfl, (blk_cell BK329.out 2).trans rfl, (blk_cell BK329.out 3).trans rfl, (blk_cell BK329.out 4).trans rfl, (blk_cell BK329.out 5).trans rfl, ((HB.out.cell (World.block_lt_of_cell? w _ hw338_0)).trans hw338_0), ((HB.out.cell (World.block_lt_of_cell? w _ hw338_1)).trans hw338_1), ((HB.out.cell (World.block_lt_of_cell? w _ hw338_2)).trans hw338_2), ((HB.out.cell (World.block_lt_of_cell? w _ hw338_3)).trans hw338_3), ((HB.out.cell (World.block_lt_of_cell? w _ hw338_4)).trans hw338_4), ((HB.out.cell (World.block_lt_of_cell? w _ hw338_5)).trans hw338_5)⟩ (fun hHeld => ?_)
             clear hK K
             refine norm_ (a' := ?_) ?_ ?_
             rotate_left
             ·
              show Act.put _ (some 39) _ = _
              simp only [Act.put, List.setIfInBounds_toArray, List.set_cons_zero, List.set_cons_succ, i64_w, i32_w]
              rfl
             refine pure_ (i := 9) (N := some 40) (v := ?_) (a' := ?_) #[true, true, true, true, true, true, true, true, true, true] rfl rfl (any_of HT_.out (by kernel_rfl)) (fun _ _ _ h => h) (Or.inl ⟨by rfl, ?_⟩) ?_ ?_
             rotate_left
             ·
              intro w'
              go_simp
              with_reducible rfl
             rotate_left
             · simp only [Act.put, List.setIfInBounds_toArray, List.set_cons_zero, List.set_cons_succ, i64_w, i32_w]
               rfl
             refine done_ (done_of HT_.out (by kernel_rfl)) ?_
             try go_wp2
             go_roundg k2
             case measure => have := HJ2.out; have := HK2.out; omega
             case rel => exact ⟨(x7_2), (wrap64 (x26_2 + 1)), (by first | rfl | (simp; done) | (simp [*]; done)), (by first | rfl | (simp; done) | (simp [*]; done)), H', ⟨by have := HJ2.out; have := HK2.out; omega⟩, ⟨by exact BK329.out⟩, ⟨by repeat (first | (with_reducible first | exact HB.out | apply below_alloc | apply pw_below_drewN | apply below_drew1 | refine below_set ?_ GE329.out | refine below_set ?_ GE336.out) | exact HB.out)⟩⟩
           · rw [if_neg c21] at H
             exact absurd H (by simp)
          · rw [if_neg c20] at H
            exact absurd H (by simp)
         · rw [if_neg c18] at H
           exact absurd H (by simp)
        · rw [if_neg c17] at H
          exact absurd H (by simp)
       ·
        rw [if_neg c16] at H
        have c16b0 : decide (x26_2 < (l0.length : Int)) = false := decide_eq_false c16
        clear c16
        by_cases c38 : 0 ≤ x7_2
        ·
         rw [if_pos c38] at H
         have c38b0 : decide (0 ≤ x7_2) = true := decide_eq_true c38
         clear c38
         by_cases c39 : x7_2 < (l0.length : Int)
         ·
          rw [if_pos c39] at H
          have c39b0 : decide (x7_2 < (l0.length : Int)) = true := decide_eq_true c39
          clear c39
          replace H := Option.bind_eq_some_iff.mp H
          obtain ⟨t334, A400, H⟩ := H
          replace H : (some (x7_2, t334, true)) = some (r1, r2, r3) := H
          have A40 := Aside0.mk A400
          clear A400
          simp only [Option.some.injEq, Prod.mk.injEq] at H
          obtain ⟨rfl, rfl, rfl⟩ := H
          try go_wp2
          have n0_ := Aside0.mk (blk_drew BK329.out)
          have n1_ := Aside0.mk (below_drew1 HB.out)
          clear BK329
          clear HB
          have BK329 := n0_
          have HB := n1_
          clear n0_ n1_
          have p333 : 0 ≤ (x7_2 : Int) := of_decide_eq_true (by first | (with_reducible assumption) | assumption)
          have q333 : x7_2 < (l0.length : Int) := of_decide_eq_true (by first | (with_reducible assumption) | assumption)
          obtain ⟨ad333, e333, hx333_0, hx333_1, hx333_2, hx333_3, hx333_4, hx333_5⟩ := at_T25 HR0.out x7_2 p333 q333
          have hw333_5 := hx333_5
          have hw333_4 := hx333_4
          have hw333_3 := hx333_3
          have hw333_2 := hx333_2
          have hw333_1 := hx333_1
          have hw333_0 := hx333_0
          cases e333
          replace hx333_0 := (HB.out.cell (World.block_lt_of_cell? w _ hx333_0)).trans hx333_0
          replace hx333_1 := (HB.out.cell (World.block_lt_of_cell? w _ hx333_1)).trans hx333_1
          replace hx333_2 := (HB.out.cell (World.block_lt_of_cell? w _ hx333_2)).trans hx333_2
          replace hx333_3 := (HB.out.cell (World.block_lt_of_cell? w _ hx333_3)).trans hx333_3
          replace hx333_4 := (HB.out.cell (World.block_lt_of_cell? w _ hx333_4)).trans hx333_4
          replace hx333_5 := (HB.out.cell (World.block_lt_of_cell? w _ hx333_5)).trans hx333_5
          replace p333 := eq_true p333
          replace q333 := eq_true q333
          refine start_ (n := 10) (S := fun w' => w'.cell? ⟨gb329, 0, none⟩ = some (.int .i64 a1_0) ∧ w'.cell? ⟨gb329, 1, none⟩ = some (.int .i64 a1_1) ∧ w'.cell? ⟨gb329, 2, none⟩ = some (.int .i64 a1_2) ∧ w'.cell? ⟨gb329, 3, none⟩ = some (.int .i64 a1_3) ∧ w'.cell? ⟨gb329, 4, none⟩ = some (.int .i64 a1_4) ∧ w'.cell? ⟨gb329, 5, none⟩ = some (.bool a1_5) ∧ w'.cell? (ad333.add ((x7_2).toNat * 6)) = some (.int .i64 ((rd_T25 l0 x7_2).f0)) ∧ w'.cell? ⟨(ad333.add ((x7_2).toNat * 6)).block, (ad333.add ((x7_2).toNat * 6)).off + 1, none⟩ = some (.int .i64 ((rd_T25 l0 x7_2).f1)) ∧ w'.cell? ⟨(ad333.add ((x7_2).toNat * 6)).block, (ad333.add ((x7_2).toNat * 6)).off + 2, none⟩ = some (.int .i64 ((rd_T25 l0 x7_2).f2)) ∧ w'.cell? ⟨(ad333.add ((x7_2).toNat * 6)).block, (ad333.add ((x7_2).toNat * 6)).off + 3, none⟩ = some (.int .i64 ((rd_T25 l0 x7_2).f3)) ∧ w'.cell? ⟨(ad333.add ((x7_2).toNat * 6)).block, (ad333.add ((x7_2).toNat * 6)).off + 4, none⟩ = some (.int .i64 ((rd_T25 l0 x7_2).f4)) ∧ w'.cell? ⟨(ad333.add ((x7_2).toNat * 6)).block, (ad333.add ((x7_2).toNat * 6)).off + 5, none⟩ = some (.bool ((rd_T25 l0 x7_2).f5))) (ds := []) #[false, false, false, false, false, false, false, false, false, false] (by kernel_rfl) rfl rfl ⟨(blk_cell BK329.out 0).trans rfl, (blk_cell BK329.out 1).trans rfl, (blk_cell BK329.out 2).trans rfl, (blk_cell BK329.out 3).trans rfl, (blk_cell BK329.out 4).trans rfl, (blk_cell BK329.out 5).trans rfl, ((HB.out.cell (World.block_lt_of_cell? w _ hw333_0)).trans hw333_0), ((HB.out.cell (World.block_lt_of_cell? w _ hw333_1)).trans hw333_1), ((HB.out.cell (World.block_lt_of_cell? w _ hw333_2)).trans hw333_2), ((HB.out.cell (World.block_lt_of_cell? w _ hw333_3)).trans hw333_3), ((HB.out.cell (World.block_lt_of_cell? w _ hw333_4)).trans hw333_4), ((HB.out.cell (World.block_lt_of_cell? w _ hw333_5)).trans hw333_5)⟩ (fun hHeld => ?_); refine with_tabW impl_NearestShape.tab10 impl_NearestShape.bits10 (fun HT_ HW_ => ?_)
          generalize wr.drew = w41 at BK329 HB hx333_0 hx333_1 hx333_2 hx333_3 hx333_4 hx333_5 hHeld ⊢
          refine pure_ (i := 0) (N := some 43) (v := ?_) (a' := ?_) #[true, false, false, false, false, false, false, false, false, false] rfl rfl (any_of HT_.out (by kernel_rfl)) (fun _ _ _ h => h) (Or.inl ⟨by rfl, ?_⟩) ?_ ?_
          rotate_left
          ·
           intro w'
           go_simp
           with_reducible rfl
          rotate_left
          · simp only [Act.put, List.setIfInBounds_toArray, List.set_cons_zero, List.set_cons_succ, i64_w, i32_w]
            rfl
          refine pure_ (i := 1) (N := some 44) (v := ?_) (a' := ?_) #[true, true, false, false, false, false, false, false, false, false] rfl rfl (any_of HT_.out (by kernel_rfl)) (fun _ _ _ h => h) (Or.inl ⟨by rfl, ?_⟩) ?_ ?_
          rotate_left
          ·
           intro w'
           go_simp
           with_reducible rfl
          rotate_left
          · simp only [Act.put, List.setIfInBounds_toArray, List.set_cons_zero, List.set_cons_succ, i64_w, i32_w]
            rfl
          refine pure_ (i := 2) (N := some 45) (v := ?_) (a' := ?_) #[true, true, true, false, false, false, false, false, false, false] rfl rfl (any_of HT_.out (by kernel_rfl)) (fun _ _ _ h => h) (Or.inl ⟨by rfl, ?_⟩) ?_ ?_
          rotate_left
          ·
           intro w'
           go_simp
           with_reducible rfl
          rotate_left
          · simp only [Act.put, List.setIfInBounds_toArray, List.set_cons_zero, List.set_cons_succ, i64_w, i32_w]
            rfl
          refine pure_ (i := 3) (N := some 46) (v := ?_) (a' := ?_) #[true, true, true, true, false, false, false, false, false, false] rfl rfl (any_of HT_.out (by kernel_rfl)) (fun _ _ _ h => h) (Or.inl ⟨by rfl, ?_⟩) ?_ ?_
          rotate_left
          ·
           intro w'
           go_simp
           with_reducible rfl
          rotate_left
          · simp only [Act.put, List.setIfInBounds_toArray, List.set_cons_zero, List.set_cons_succ, i64_w, i32_w]
            rfl
          refine take_ (i := 4) (N := some 47) (v := ?_) (a' := ?_) #[true, true, true, true, true, false, false, false, false, false] rfl rfl (take_ofW HT_.out HW_.out (by kernel_rfl)) (fun _ _ _ h => h) (Or.inl ⟨by rfl, ?_⟩) hHeld ?_ ?_
          rotate_left
          ·
           rintro w' ⟨s0, s1, s2, s3, s4, s5, s6, s7, s8, s9, s10, s11⟩
           go_simp
           with_reducible rfl
          rotate_left
          · simp only [Act.put, List.setIfInBounds_toArray, List.set_cons_zero, List.set_cons_succ, i64_w, i32_w]
            rfl
          refine take_ (i := 5) (N := some 48) (v := ?_) (a' := ?_) #[true, true, true, true, true, true, false, false, false, false] rfl rfl (take_ofW HT_.out HW_.out (by kernel_rfl)) (fun _ _ _ h => h) (Or.inl ⟨by rfl, ?_⟩) hHeld ?_ ?_
          rotate_left
          ·
           rintro w' ⟨s0, s1, s2, s3, s4, s5, s6, s7, s8, s9, s10, s11⟩
           go_simp
           with_reducible rfl
          rotate_left
          · simp only [Act.put, List.setIfInBounds_toArray, List.set_cons_zero, List.set_cons_succ, i64_w, i32_w]
            rfl
          refine one_ (i := 6) (N := some 49) #[true, true, true, true, true, true, true, false, false, false] rfl rfl (one_of HT_.out (by kernel_rfl)) (by decide) (fun K hK => ?_)
          refine goes_ Try.func59 (by kernel_rfl) rfl #[.agg #[.int .i64 ((rd_T25 l0 x7_2).f0), .int .i64 ((rd_T25 l0 x7_2).f1), .int .i64 ((rd_T25 l0 x7_2).f2), .int .i64 ((rd_T25 l0 x7_2).f3), .int .i64 ((rd_T25 l0 x7_2).f4), .bool ((rd_T25 l0 x7_2).f5)], .agg #[.int .i64 a1_0, .int .i64 a1_1, .int .i64 a1_2, .int .i64 a1_3, .int .i64 a1_4, .bool a1_5]] (by rfl) rfl rfl (by (try simp only [List.map_toArray, List.map_cons, List.map_nil]); first | done | rfl | (simp only [List.length_drop, List.length_take]; rfl)) ?_
          with_reducible refine (impl_Shape_distance.calls k2 ((rd_T25 l0 x7_2).f0) ((rd_T25 l0 x7_2).f1) ((rd_T25 l0 x7_2).f2) ((rd_T25 l0 x7_2).f3) ((rd_T25 l0 x7_2).f4) ((rd_T25 l0 x7_2).f5) a1_0 a1_1 a1_2 a1_3 a1_4 a1_5 t334 _ A40.out).mono ?_
          rintro e w42 ⟨rfl, hb⟩
          refine ⟨_, rfl, ?_⟩
          have n0_ := Aside0.mk (blk_below (g := gb329) (o := .cells #[.int .i64 a1_0, .int .i64 a1_1, .int .i64 a1_2, .int .i64 a1_3, .int .i64 a1_4, .bool a1_5] 25 (0, 0)) (by exact BK329.out) hb)
          have n1_ := Aside0.mk (below_step (by repeat (first | (with_reducible first | exact HB.out | apply below_alloc | apply pw_below_drewN | apply below_drew1 | refine below_set ?_ GE329.out) | exact HB.out)) hb)
          clear BK329
          clear HB
          have BK329 := n0_
          have HB := n1_
          clear n0_ n1_
          (try clear hb)
          (try clear hb2)
          (try clear hk)
          (try clear hi)
          refine hK.out _ _ ⟨(blk_cell BK329.out 0).trans rfl, (blk_cell BK329.out 1).trans rfl, (blk_cell BK329.out 2).trans rfl, (blk_cell BK329.out 3).trans rfl, (blk_cell BK329.out 4).trans rfl, (blk_cell BK329.out 5).trans rfl, ((HB.out.cell (World.block_lt_of_cell? w _ hw333_0)).trans hw333_0), ((HB.out.cell (World.block_lt_of_cell? w _ hw333_1)).trans hw333_1), ((HB.out.cell (World.block_lt_of_cell? w _ hw333_2)).trans hw333_2), ((HB.out.cell (World.block_lt_of_cell? w _ hw333_3)).trans hw333_3), ((HB.out.cell (World.block_lt_of_cell? w _ hw333_4)).trans hw333_4), ((HB.out.cell (World.block_lt_of_cell? w _ hw333_5)).trans hw333_5)⟩ (fun hHeld => ?_)
          clear hK K
          refine norm_ (a' := ?_) ?_ ?_
          rotate_left
          ·
           show Act.put _ (some 49) _ = _
           simp only [Act.put, List.setIfInBounds_toArray, List.set_cons_zero, List.set_cons_succ, i64_w, i32_w]
           rfl
          refine pure_ (i := 7) (N := some 4) (v := ?_) (a' := ?_) #[true, true, true, true, true, true, true, true, false, false] rfl rfl (any_of HT_.out (by kernel_rfl)) (fun _ _ _ h => h) (Or.inl ⟨by rfl, ?_⟩) ?_ ?_
          rotate_left
          ·
           intro w'
           go_simp
           with_reducible rfl
          rotate_left
          · simp only [Act.put, List.setIfInBounds_toArray, List.set_cons_zero, List.set_cons_succ, i64_w, i32_w]
            rfl
          refine pure_ (i := 8) (N := some 5) (v := ?_) (a' := ?_) #[true, true, true, true, true, true, true, true, true, false] rfl rfl (any_of HT_.out (by kernel_rfl)) (fun _ _ _ h => h) (Or.inl ⟨by rfl, ?_⟩) ?_ ?_
          rotate_left
          ·
           intro w'
           go_simp
           with_reducible rfl
          rotate_left
          · simp only [Act.put, List.setIfInBounds_toArray, List.set_cons_zero, List.set_cons_succ, i64_w, i32_w]
            rfl
          refine pure_ (i := 9) (N := some 6) (v := ?_) (a' := ?_) #[true, true, true, true, true, true, true, true, true, true] rfl rfl (any_of HT_.out (by kernel_rfl)) (fun _ _ _ h => h) (Or.inl ⟨by rfl, ?_⟩) ?_ ?_
          rotate_left
          ·
           intro w'
           go_simp
           with_reducible rfl
          rotate_left
          · simp only [Act.put, List.setIfInBounds_toArray, List.set_cons_zero, List.set_cons_succ, i64_w, i32_w]
            rfl
          refine done_ (done_of HT_.out (by kernel_rfl)) ?_
          try go_wp2
          go_ret3
          exact ⟨by first | rfl | (simp [errW_none, errW_some] <;> rfl) | (simp [*, errW_none, errW_some] <;> rfl), by repeat (first | (with_reducible first | exact HB.out | apply below_alloc | apply pw_below_drewN | apply below_drew1 | refine below_set ?_ GE329.out) | exact HB.out)⟩
         · rw [if_neg c39] at H
           exact absurd H (by simp)
        · rw [if_neg c38] at H
          exact absurd H (by simp)

end Go.Proofs.Ytaecjbhenknfkaa.FD
