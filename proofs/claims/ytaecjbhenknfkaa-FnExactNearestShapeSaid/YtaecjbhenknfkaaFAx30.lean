-- laid by pr.py (wip/tools) over the kit's printer; Lean checks it
import Derived.Test.YtaecjbhenknfkaaFAx0
import Derived.Test.YtaecjbhenknfkaaFAx4
import Derived.Test.YtaecjbhenknfkaaFAx5
import Derived.Test.YtaecjbhenknfkaaFAx14
import Derived.Test.YtaecjbhenknfkaaFAx29
namespace Go.Proofs.Ytaecjbhenknfkaa.FA
open Go.RowKit Go.Proofs.YtaecjbhenknfkaaW.PrintWords Go.Proofs.YtaecjbhenknfkaaW.PrintLast Go.Proofs.YtaecjbhenknfkaaW.PrintMore
attribute [local go_sem] max2_int min2_int max_two min_two max_three min_three max_four min_four   -- for this text's walks alone
set_option linter.unusedVariables false
set_option linter.unusedSimpArgs false

/-! ### impl_NearestShape: function 33 -/
mutual
def impl_NearestShape.j0 : Nat → List (S25) → Bool → Int → Int → Int → Int → Int → Bool → Option (Int × Int × Bool)
  | 0, _, _, _, _, _, _, _, _ => none
  | k + 1, x0, x23, x587000, x587001, x587002, x587003, x587004, x587005 => if x23 = true then (some (0, 0, false)) else (impl_NearestShape.l0 k x0 0 x0 (x0.length : Int) 0 x587000 x587001 x587002 x587003 x587004 x587005)
def impl_NearestShape.l0 : Nat → List (S25) → Int → List (S25) → Int → Int → Int → Int → Int → Int → Int → Bool → Option (Int × Int × Bool)
  | 0, _, _, _, _, _, _, _, _, _, _, _ => none
  | k + 1, x0, x7, x24, x25, x26, x587000, x587001, x587002, x587003, x587004, x587005 => if x26 < x25 then (if 0 ≤ x26 then (if x26 < (x24.length : Int) then ((impl_Shape_distance.f k ((rd_T25 x24 x26).f0) ((rd_T25 x24 x26).f1) ((rd_T25 x24 x26).f2) ((rd_T25 x24 x26).f3) ((rd_T25 x24 x26).f4) ((rd_T25 x24 x26).f5) x587000 x587001 x587002 x587003 x587004 x587005).bind fun t594 => (if 0 ≤ x7 then (if x7 < (x0.length : Int) then ((impl_Shape_distance.f k ((rd_T25 x0 x7).f0) ((rd_T25 x0 x7).f1) ((rd_T25 x0 x7).f2) ((rd_T25 x0 x7).f3) ((rd_T25 x0 x7).f4) ((rd_T25 x0 x7).f5) x587000 x587001 x587002 x587003 x587004 x587005).bind fun t596 => (if t594 < t596 then (impl_NearestShape.l0 k x0 x26 x24 x25 (wrap64 (x26 + 1)) x587000 x587001 x587002 x587003 x587004 x587005) else (impl_NearestShape.l0 k x0 x7 x24 x25 (wrap64 (x26 + 1)) x587000 x587001 x587002 x587003 x587004 x587005))) else (none)) else (none))) else (none)) else (none)) else (if 0 ≤ x7 then (if x7 < (x0.length : Int) then ((impl_Shape_distance.f k ((rd_T25 x0 x7).f0) ((rd_T25 x0 x7).f1) ((rd_T25 x0 x7).f2) ((rd_T25 x0 x7).f3) ((rd_T25 x0 x7).f4) ((rd_T25 x0 x7).f5) x587000 x587001 x587002 x587003 x587004 x587005).bind fun t591 => (some (x7, t591, true))) else (none)) else (none))
end
def impl_NearestShape.f (k : Nat) (l0 : List (S25)) (a1_0 : Int) (a1_1 : Int) (a1_2 : Int) (a1_3 : Int) (a1_4 : Int) (a1_5 : Bool) : Option (Int × Int × Bool) := (impl_within.f (l0.length : Int) 1 20).bind fun t587 => (if t587 = true then ((impl_IsShape.f a1_0 a1_1 a1_2 a1_3 a1_4 a1_5).bind fun t588 => (if t588 = true then ((impl_allOf_Shape.f l0).bind fun t589 => (impl_NearestShape.j0 k l0 (!t589) a1_0 a1_1 a1_2 a1_3 a1_4 a1_5)) else (impl_NearestShape.j0 k l0 true a1_0 a1_1 a1_2 a1_3 a1_4 a1_5))) else (impl_NearestShape.j0 k l0 true a1_0 a1_1 a1_2 a1_3 a1_4 a1_5))
theorem impl_NearestShape.mono_l : ∀ k, (∀ y0 y1 y2 y3 y4 y5 y6 y7, LeO (impl_NearestShape.j0 k y0 y1 y2 y3 y4 y5 y6 y7) (impl_NearestShape.j0 (k + 1) y0 y1 y2 y3 y4 y5 y6 y7)) ∧ (∀ y0 y1 y2 y3 y4 y5 y6 y7 y8 y9 y10, LeO (impl_NearestShape.l0 k y0 y1 y2 y3 y4 y5 y6 y7 y8 y9 y10) (impl_NearestShape.l0 (k + 1) y0 y1 y2 y3 y4 y5 y6 y7 y8 y9 y10))
  | 0 => ⟨fun _ _ _ _ _ _ _ _ r h => by simp [impl_NearestShape.j0] at h, fun _ _ _ _ _ _ _ _ _ _ _ r h => by simp [impl_NearestShape.l0] at h⟩
  | k + 1 => by
    obtain ⟨ih0, ih1⟩ := impl_NearestShape.mono_l k
    refine ⟨?_, ?_⟩
    · intro y0 y1 y2 y3 y4 y5 y6 y7
      unfold impl_NearestShape.j0
      repeat' first
      | (with_reducible exact ih0 _ _ _ _ _ _ _ _)
      | (with_reducible exact ih1 _ _ _ _ _ _ _ _ _ _ _)
      | (with_reducible exact impl_Shape_distance.mono _ _ _ _ _ _ _ _ _ _ _ _ _)
      | (with_reducible exact LeO.refl _)
      | (with_reducible exact LeO.none _)
      | (with_reducible refine LeO.ite ?_ ?_)
      | (with_reducible refine LeO.bind ?_ (fun _ => ?_))
      | exact ih0 _ _ _ _ _ _ _ _
      | exact ih1 _ _ _ _ _ _ _ _ _ _ _
      | exact impl_Shape_distance.mono _ _ _ _ _ _ _ _ _ _ _ _ _
      | exact LeO.none _
      | refine LeO.ite ?_ ?_
      | refine LeO.bind ?_ (fun _ => ?_)
    · intro y0 y1 y2 y3 y4 y5 y6 y7 y8 y9 y10
      unfold impl_NearestShape.l0
      repeat' first
      | (with_reducible exact ih0 _ _ _ _ _ _ _ _)
      | (with_reducible exact ih1 _ _ _ _ _ _ _ _ _ _ _)
      | (with_reducible exact impl_Shape_distance.mono _ _ _ _ _ _ _ _ _ _ _ _ _)
      | (with_reducible exact LeO.refl _)
      | (with_reducible exact LeO.none _)
      | (with_reducible refine LeO.ite ?_ ?_)
      | (with_reducible refine LeO.bind ?_ (fun _ => ?_))
      | exact ih0 _ _ _ _ _ _ _ _
      | exact ih1 _ _ _ _ _ _ _ _ _ _ _
      | exact impl_Shape_distance.mono _ _ _ _ _ _ _ _ _ _ _ _ _
      | exact LeO.none _
      | refine LeO.ite ?_ ?_
      | refine LeO.bind ?_ (fun _ => ?_)
theorem impl_NearestShape.mono : ∀ a0 a1 a2 a3 a4 a5 a6 k, LeO (impl_NearestShape.f k a0 a1 a2 a3 a4 a5 a6) (impl_NearestShape.f (k + 1) a0 a1 a2 a3 a4 a5 a6) := by
  intro a0 a1 a2 a3 a4 a5 a6 k
  obtain ⟨ih0, ih1⟩ := impl_NearestShape.mono_l k
  unfold impl_NearestShape.f
  repeat' first
      | (with_reducible exact ih0 _ _ _ _ _ _ _ _)
      | (with_reducible exact ih1 _ _ _ _ _ _ _ _ _ _ _)
      | (with_reducible exact impl_Shape_distance.mono _ _ _ _ _ _ _ _ _ _ _ _ _)
      | (with_reducible exact LeO.refl _)
      | (with_reducible exact LeO.none _)
      | (with_reducible refine LeO.ite ?_ ?_)
      | (with_reducible refine LeO.bind ?_ (fun _ => ?_))
      | exact ih0 _ _ _ _ _ _ _ _
      | exact ih1 _ _ _ _ _ _ _ _ _ _ _
      | exact impl_Shape_distance.mono _ _ _ _ _ _ _ _ _ _ _ _ _
      | exact LeO.none _
      | refine LeO.ite ?_ ?_
      | refine LeO.bind ?_ (fun _ => ?_)
def impl_NearestShape.T7 : Bool × List (List Nat × List Nat) := (true, [([], []), ([], []), ([0, 1], [0, 1]), ([], []), ([], []), ([3, 4], [3, 4]), ([5], [5]), ([], []), ([6, 7, 2], [6, 7]), ([2, 8], [2, 8])])
def impl_NearestShape.B7 : List Nat := [0, 0, 3, 0, 0, 24, 56, 0, 255, 511]
theorem impl_NearestShape.tab7 : rtab .any (opsOf Try.f33 7) = impl_NearestShape.T7 := by kernel_rfl
theorem impl_NearestShape.bits7 : waitsOk impl_NearestShape.T7.2 impl_NearestShape.B7 = true := by kernel_rfl
def impl_NearestShape.T10 : Bool × List (List Nat × List Nat) := (true, [([], []), ([], []), ([], []), ([1, 2], [1, 2]), ([3], [3]), ([], []), ([4, 5], [4, 5]), ([0, 6, 0], [0]), ([6, 7, 0, 1, 2, 3, 4, 5, 6, 7], [6]), ([8, 0, 1, 2, 3, 4, 5, 6, 7, 8], [])])
def impl_NearestShape.B10 : List Nat := [0, 0, 0, 6, 14, 0, 62, 127, 255, 511]
theorem impl_NearestShape.tab10 : rtab .any (opsOf Try.f33 10) = impl_NearestShape.T10 := by kernel_rfl
theorem impl_NearestShape.bits10 : waitsOk impl_NearestShape.T10.2 impl_NearestShape.B10 = true := by kernel_rfl
set_option maxHeartbeats 8000000 in
set_option maxRecDepth 100000 in
theorem impl_NearestShape.calls (k : Nat) (A0 : Option Addr) (c0 : Nat) (l0 : List (S25)) (a1_0 : Int) (a1_1 : Int) (a1_2 : Int) (a1_3 : Int) (a1_4 : Int) (a1_5 : Bool) (r1 : Int) (r2 : Int) (r3 : Bool) (w : World) (hr0 : Kd.C k25 w A0 l0.length l0) (hc0 : l0.length ≤ c0) (h : impl_NearestShape.f k l0 a1_0 a1_1 a1_2 a1_3 a1_4 a1_5 = some (r1, r2, r3)) :
    Calls Try.prog 33 #[.slice A0 l0.length c0, .agg #[.int .i64 a1_0, .int .i64 a1_1, .int .i64 a1_2, .int .i64 a1_3, .int .i64 a1_4, .bool a1_5]] w fun e w' => e = .returned (.tuple #[.int .i64 r1, .int .i64 r2, .bool r3]) ∧ Below w.heap.size w w' := by
  have hu25 := Try.underlying25
  have HR0 := Aside0.mk hr0
  have HC0 := Aside0.mk hc0
  clear hr0 hc0
  have HB := Aside0.mk (Below.refl w.heap.size w)
  have H : ((impl_within.f (l0.length : Int) 1 20).bind fun t587 => (if t587 = true then ((impl_IsShape.f a1_0 a1_1 a1_2 a1_3 a1_4 a1_5).bind fun t588 => (if t588 = true then ((impl_allOf_Shape.f l0).bind fun t589 => (impl_NearestShape.j0 k l0 (!t589) a1_0 a1_1 a1_2 a1_3 a1_4 a1_5)) else (impl_NearestShape.j0 k l0 true a1_0 a1_1 a1_2 a1_3 a1_4 a1_5))) else (impl_NearestShape.j0 k l0 true a1_0 a1_1 a1_2 a1_3 a1_4 a1_5))) = some (r1, r2, r3) := h
  clear h
  have HC3 := Aside0.mk H
  clear H
  go_enter Try.func33, Try.ntmps33
  go_upto_region 1 with (first | ((with_reducible refine gate_dst (N := 3) rfl ?_); refine box_event ?hg (N := 3) ?hd (cs := #[.int .i64 a1_0, .int .i64 a1_1, .int .i64 a1_2, .int .i64 a1_3, .int .i64 a1_4, .bool a1_5]) (t := 25) ?hr ?_; (case hd => rfl); (case hg => rfl); (case hr => first | (go_simp; done) | (go_simp; rfl)); intro gb586 hg w4 hbox hb; have n0_ := Aside0.mk (below_step (by repeat (first | (with_reducible first | exact HB.out | apply below_alloc | apply pw_below_drewN | apply below_drew1) | exact HB.out)) hb); have n1_ := Aside0.mk (hbox); have n2_ := Aside0.mk ((by rw [hg]; exact (below_size (by repeat (first | (with_reducible first | exact HB.out | apply below_alloc | apply pw_below_drewN | apply below_drew1) | exact HB.out))) : w.heap.size ≤ gb586)); have n3_ := Aside0.mk ((by rw [hg]; exact (below_size (by repeat (first | (with_reducible first | exact HB.out | apply below_alloc | apply pw_below_drewN | apply below_drew1) | exact HB.out))) : w.heap.size ≤ gb586)); clear HB; have HB := n0_; have BK586 := n1_; have GW586 := n2_; have GE586 := n3_; clear n0_ n1_ n2_ n3_; clear hb hbox hg))
  (try simp only [Act.put, List.setIfInBounds_toArray, List.set_cons_zero, List.set_cons_succ])
  go_cut [23] (fun v23 wc => ∃ (kq : Nat) (x23_2 : Bool), v23 = .bool x23_2 ∧ Aside0 (impl_NearestShape.j0 kq l0 x23_2 a1_0 a1_1 a1_2 a1_3 a1_4 a1_5 = some (r1, r2, r3)) ∧ Aside0 (kq ≤ k) ∧ Aside0 (wc.heap[gb586]? = some (.cells #[.int .i64 a1_0, .int .i64 a1_1, .int .i64 a1_2, .int .i64 a1_3, .int .i64 a1_4, .bool a1_5] 25 (0, 0))) ∧ Aside0 (Below w.heap.size w wc))
  case first =>
    have H := HC3.out
    clear HC3
    replace H := Option.bind_eq_some_iff.mp H
    obtain ⟨t587, A50, H⟩ := H
    replace H : (if t587 = true then ((impl_IsShape.f a1_0 a1_1 a1_2 a1_3 a1_4 a1_5).bind fun t588 => (if t588 = true then ((impl_allOf_Shape.f l0).bind fun t589 => (impl_NearestShape.j0 k l0 (!t589) a1_0 a1_1 a1_2 a1_3 a1_4 a1_5)) else (impl_NearestShape.j0 k l0 true a1_0 a1_1 a1_2 a1_3 a1_4 a1_5))) else (impl_NearestShape.j0 k l0 true a1_0 a1_1 a1_2 a1_3 a1_4 a1_5)) = some (r1, r2, r3) := H
    have A5 := Aside0.mk A50
    clear A50
    by_cases c6 : t587 = true
    · subst c6
      have H1 : ((impl_IsShape.f a1_0 a1_1 a1_2 a1_3 a1_4 a1_5).bind fun t588 => (if t588 = true then ((impl_allOf_Shape.f l0).bind fun t589 => (impl_NearestShape.j0 k l0 (!t589) a1_0 a1_1 a1_2 a1_3 a1_4 a1_5)) else (impl_NearestShape.j0 k l0 true a1_0 a1_1 a1_2 a1_3 a1_4 a1_5))) = some (r1, r2, r3) := by rw [if_pos rfl] at H; exact H
      clear H
      have H := H1
      clear H1
      replace H := Option.bind_eq_some_iff.mp H
      obtain ⟨t588, A70, H⟩ := H
      replace H : (if t588 = true then ((impl_allOf_Shape.f l0).bind fun t589 => (impl_NearestShape.j0 k l0 (!t589) a1_0 a1_1 a1_2 a1_3 a1_4 a1_5)) else (impl_NearestShape.j0 k l0 true a1_0 a1_1 a1_2 a1_3 a1_4 a1_5)) = some (r1, r2, r3) := H
      have A7 := Aside0.mk A70
      clear A70
      by_cases c8 : t588 = true
      · subst c8
        have H1 : ((impl_allOf_Shape.f l0).bind fun t589 => (impl_NearestShape.j0 k l0 (!t589) a1_0 a1_1 a1_2 a1_3 a1_4 a1_5)) = some (r1, r2, r3) := by rw [if_pos rfl] at H; exact H
        clear H
        have H := H1
        clear H1
        replace H := Option.bind_eq_some_iff.mp H
        obtain ⟨t589, A90, H⟩ := H
        replace H : (impl_NearestShape.j0 k l0 (!t589) a1_0 a1_1 a1_2 a1_3 a1_4 a1_5) = some (r1, r2, r3) := H
        have A9 := Aside0.mk A90
        clear A90
        have H' := Aside0.mk H
        clear H
        go_wp2_with (first | ((with_reducible refine gate_callee (f := 64) rfl ?_); refine goesL_ (some 12) rfl rfl Try.func64 (by kernel_rfl) rfl #[.int .i64 (l0.length : Int), .int .i64 1, .int .i64 20] rfl (by (try simp only [List.map_toArray, List.map_cons, List.map_nil]); first | done | rfl | (simp only [List.length_drop, List.length_take]; rfl)) ?_; (with_reducible refine (impl_within.calls (l0.length : Int) 1 20 true _ A5.out).mono ?_); rintro e w' ⟨rfl, ⟨nd, rfl⟩⟩; refine ⟨_, rfl, ?_⟩; have hcz10_0 : w4.cell? ⟨gb586, 0, none⟩ = some (.int .i64 a1_0) := (blk_cell BK586.out 0).trans rfl; have hcz10_1 : w4.cell? ⟨gb586, 1, none⟩ = some (.int .i64 a1_1) := (blk_cell BK586.out 1).trans rfl; have hcz10_2 : w4.cell? ⟨gb586, 2, none⟩ = some (.int .i64 a1_2) := (blk_cell BK586.out 2).trans rfl; have hcz10_3 : w4.cell? ⟨gb586, 3, none⟩ = some (.int .i64 a1_3) := (blk_cell BK586.out 3).trans rfl; have hcz10_4 : w4.cell? ⟨gb586, 4, none⟩ = some (.int .i64 a1_4) := (blk_cell BK586.out 4).trans rfl; have hcz10_5 : w4.cell? ⟨gb586, 5, none⟩ = some (.bool a1_5) := (blk_cell BK586.out 5).trans rfl; have hfz10_0 := blk_frozen BK586.out 0; have hfz10_1 := blk_frozen BK586.out 1; have hfz10_2 := blk_frozen BK586.out 2; have hfz10_3 := blk_frozen BK586.out 3; have hfz10_4 := blk_frozen BK586.out 4; have hfz10_5 := blk_frozen BK586.out 5) | (go_at_call 16; (with_reducible refine (impl_IsShape.calls a1_0 a1_1 a1_2 a1_3 a1_4 a1_5 true _ A7.out).mono ?_); rintro e w11 ⟨rfl, hb⟩; have n0_ := Aside0.mk (blk_below (g := gb586) (o := .cells #[.int .i64 a1_0, .int .i64 a1_1, .int .i64 a1_2, .int .i64 a1_3, .int .i64 a1_4, .bool a1_5] 25 (0, 0)) (by (with_reducible repeat (first | refine blk_drewN ?_ _ | refine blk_drew ?_ | refine blk_alloc ?_ _)); exact BK586.out) hb); have n1_ := Aside0.mk (below_step (by repeat (first | (with_reducible first | exact HB.out | apply below_alloc | apply pw_below_drewN | apply below_drew1 | refine below_set ?_ GE586.out) | exact HB.out)) hb); clear BK586; clear HB; have BK586 := n0_; have HB := n1_; clear n0_ n1_; (try clear hb); (try clear hb2); (try clear hk); (try clear hi)) | (go_at_call 65; (with_reducible refine (impl_allOf_Shape.calls _ _ l0 t589 _ ?side1 ?side2 A9.out).mono ?_); (case side1 => repeat (first | exact (Kd.C_below HR0.out HB.out) | (with_reducible refine Kd.C_alloc ?_ _) | (with_reducible refine Kd.C_drewN ?_ _) | (with_reducible refine Kd.C_drew ?_))); (case side2 => exact HC0.out); rintro e w12 ⟨rfl, hb⟩; have n0_ := Aside0.mk (blk_below (g := gb586) (o := .cells #[.int .i64 a1_0, .int .i64 a1_1, .int .i64 a1_2, .int .i64 a1_3, .int .i64 a1_4, .bool a1_5] 25 (0, 0)) (by (with_reducible repeat (first | refine blk_drewN ?_ _ | refine blk_drew ?_ | refine blk_alloc ?_ _)); exact BK586.out) hb); have n1_ := Aside0.mk (below_step (by repeat (first | (with_reducible first | exact HB.out | apply below_alloc | apply pw_below_drewN | apply below_drew1 | refine below_set ?_ GE586.out) | exact HB.out)) hb); clear BK586; clear HB; have BK586 := n0_; have HB := n1_; clear n0_ n1_; (try clear hb); (try clear hb2); (try clear hk); (try clear hi)))
        go_meet
        case rel => exact ⟨_, (!t589), (by first | rfl | (simp; done) | (simp [*]; done)), H', ⟨by first | omega | exact Nat.le_refl _⟩, ⟨by (with_reducible repeat (first | refine blk_drewN ?_ _ | refine blk_drew ?_ | refine blk_alloc ?_ _)); exact BK586.out⟩, ⟨by repeat (first | (with_reducible first | exact HB.out | apply below_alloc | apply pw_below_drewN | apply below_drew1 | refine below_set ?_ GE586.out) | exact HB.out)⟩⟩
      · replace c8 := Bool.eq_false_iff.mpr c8
        subst c8
        have H1 : (impl_NearestShape.j0 k l0 true a1_0 a1_1 a1_2 a1_3 a1_4 a1_5) = some (r1, r2, r3) := by rw [if_neg (show ¬ (false = true) by decide)] at H; exact H
        clear H
        have H := H1
        clear H1
        have H' := Aside0.mk H
        clear H
        go_wp2_with (first | ((with_reducible refine gate_callee (f := 64) rfl ?_); refine goesL_ (some 12) rfl rfl Try.func64 (by kernel_rfl) rfl #[.int .i64 (l0.length : Int), .int .i64 1, .int .i64 20] rfl (by (try simp only [List.map_toArray, List.map_cons, List.map_nil]); first | done | rfl | (simp only [List.length_drop, List.length_take]; rfl)) ?_; (with_reducible refine (impl_within.calls (l0.length : Int) 1 20 true _ A5.out).mono ?_); rintro e w' ⟨rfl, ⟨nd, rfl⟩⟩; refine ⟨_, rfl, ?_⟩; have hcz13_0 : w4.cell? ⟨gb586, 0, none⟩ = some (.int .i64 a1_0) := (blk_cell BK586.out 0).trans rfl; have hcz13_1 : w4.cell? ⟨gb586, 1, none⟩ = some (.int .i64 a1_1) := (blk_cell BK586.out 1).trans rfl; have hcz13_2 : w4.cell? ⟨gb586, 2, none⟩ = some (.int .i64 a1_2) := (blk_cell BK586.out 2).trans rfl; have hcz13_3 : w4.cell? ⟨gb586, 3, none⟩ = some (.int .i64 a1_3) := (blk_cell BK586.out 3).trans rfl; have hcz13_4 : w4.cell? ⟨gb586, 4, none⟩ = some (.int .i64 a1_4) := (blk_cell BK586.out 4).trans rfl; have hcz13_5 : w4.cell? ⟨gb586, 5, none⟩ = some (.bool a1_5) := (blk_cell BK586.out 5).trans rfl; have hfz13_0 := blk_frozen BK586.out 0; have hfz13_1 := blk_frozen BK586.out 1; have hfz13_2 := blk_frozen BK586.out 2; have hfz13_3 := blk_frozen BK586.out 3; have hfz13_4 := blk_frozen BK586.out 4; have hfz13_5 := blk_frozen BK586.out 5) | (go_at_call 16; (with_reducible refine (impl_IsShape.calls a1_0 a1_1 a1_2 a1_3 a1_4 a1_5 false _ A7.out).mono ?_); rintro e w14 ⟨rfl, hb⟩; have n0_ := Aside0.mk (blk_below (g := gb586) (o := .cells #[.int .i64 a1_0, .int .i64 a1_1, .int .i64 a1_2, .int .i64 a1_3, .int .i64 a1_4, .bool a1_5] 25 (0, 0)) (by (with_reducible repeat (first | refine blk_drewN ?_ _ | refine blk_drew ?_ | refine blk_alloc ?_ _)); exact BK586.out) hb); have n1_ := Aside0.mk (below_step (by repeat (first | (with_reducible first | exact HB.out | apply below_alloc | apply pw_below_drewN | apply below_drew1 | refine below_set ?_ GE586.out) | exact HB.out)) hb); clear BK586; clear HB; have BK586 := n0_; have HB := n1_; clear n0_ n1_; (try clear hb); (try clear hb2); (try clear hk); (try clear hi)))
        go_meet
        case rel => exact ⟨_, (true), (by first | rfl | (simp; done) | (simp [*]; done)), H', ⟨by first | omega | exact Nat.le_refl _⟩, ⟨by (with_reducible repeat (first | refine blk_drewN ?_ _ | refine blk_drew ?_ | refine blk_alloc ?_ _)); exact BK586.out⟩, ⟨by repeat (first | (with_reducible first | exact HB.out | apply below_alloc | apply pw_below_drewN | apply below_drew1 | refine below_set ?_ GE586.out) | exact HB.out)⟩⟩
    · replace c6 := Bool.eq_false_iff.mpr c6
      subst c6
      have H1 : (impl_NearestShape.j0 k l0 true a1_0 a1_1 a1_2 a1_3 a1_4 a1_5) = some (r1, r2, r3) := by rw [if_neg (show ¬ (false = true) by decide)] at H; exact H
      clear H
      have H := H1
      clear H1
      have H' := Aside0.mk H
      clear H
      go_wp2_with (first | ((with_reducible refine gate_callee (f := 64) rfl ?_); refine goesL_ (some 12) rfl rfl Try.func64 (by kernel_rfl) rfl #[.int .i64 (l0.length : Int), .int .i64 1, .int .i64 20] rfl (by (try simp only [List.map_toArray, List.map_cons, List.map_nil]); first | done | rfl | (simp only [List.length_drop, List.length_take]; rfl)) ?_; (with_reducible refine (impl_within.calls (l0.length : Int) 1 20 false _ A5.out).mono ?_); rintro e w' ⟨rfl, ⟨nd, rfl⟩⟩; refine ⟨_, rfl, ?_⟩))
      go_meet
      case rel => exact ⟨_, (true), (by first | rfl | (simp; done) | (simp [*]; done)), H', ⟨by first | omega | exact Nat.le_refl _⟩, ⟨by (with_reducible repeat (first | refine blk_drewN ?_ _ | refine blk_drew ?_ | refine blk_alloc ?_ _)); exact BK586.out⟩, ⟨by repeat (first | (with_reducible first | exact HB.out | apply below_alloc | apply pw_below_drewN | apply below_drew1 | refine below_set ?_ GE586.out) | exact HB.out)⟩⟩
  case rest =>
    clear HC3
    try clear p2
    try clear c3
    try clear c6
    try clear c8
    try clear hcz10_0
    try clear hcz10_1
    try clear hcz10_2
    try clear hcz10_3
    try clear hcz10_4
    try clear hcz10_5
    try clear hcz13_0
    try clear hcz13_1
    try clear hcz13_2
    try clear hcz13_3
    try clear hcz13_4
    try clear hcz13_5
    try clear hfz10_0
    try clear hfz10_1
    try clear hfz10_2
    try clear hfz10_3
    try clear hfz10_4
    try clear hfz10_5
    try clear hfz13_0
    try clear hfz13_1
    try clear hfz13_2
    try clear hfz13_3
    try clear hfz13_4
    try clear hfz13_5
    obtain ⟨kq, x23_2, rfl, HA, HJ2, BK586, HB⟩ := hcut
    cases kq with
    | zero => exact absurd HA.out (by simp [impl_NearestShape.j0])
    | succ kj2 =>
      have H := HA.out
      clear HA
      simp only [impl_NearestShape.j0] at H
      by_cases c15 : x23_2 = true
      · subst c15
        have H1 : (some (0, 0, false)) = some (r1, r2, r3) := by rw [if_pos rfl] at H; exact H
        clear H
        have H := H1
        clear H1
        simp only [Option.some.injEq, Prod.mk.injEq] at H
        obtain ⟨rfl, rfl, rfl⟩ := H
        go_wp2
        go_ret3
        exact ⟨by first | rfl | (simp [errW_none, errW_some] <;> rfl) | (simp [*, errW_none, errW_some] <;> rfl), by repeat (first | (with_reducible first | exact HB.out | apply below_alloc | apply pw_below_drewN | apply below_drew1 | refine below_set ?_ GE586.out) | exact HB.out)⟩
      · replace c15 := Bool.eq_false_iff.mpr c15
        subst c15
        have H1 : (impl_NearestShape.l0 kj2 l0 0 l0 (l0.length : Int) 0 a1_0 a1_1 a1_2 a1_3 a1_4 a1_5) = some (r1, r2, r3) := by rw [if_neg (show ¬ (false = true) by decide)] at H; exact H
        clear H
        have H := H1
        clear H1
        have H' := Aside0.mk H
        clear H
        go_wp2
        go_loopg [7, 26] kj2 (fun kq v7 v26 w' => ∃ (x7_2 : Int) (x26_2 : Int), v7 = .int .i64 x7_2 ∧ v26 = .int .i64 x26_2 ∧ Aside0 (impl_NearestShape.l0 kq l0 x7_2 l0 (l0.length : Int) x26_2 a1_0 a1_1 a1_2 a1_3 a1_4 a1_5 = some (r1, r2, r3)) ∧ Aside0 (kq ≤ kj2) ∧ Aside0 (w'.heap[gb586]? = some (.cells #[.int .i64 a1_0, .int .i64 a1_1, .int .i64 a1_2, .int .i64 a1_3, .int .i64 a1_4, .bool a1_5] 25 (0, 0))) ∧ Aside0 (Below w.heap.size w w'))
        case atStart => exact ⟨(0), (0), (by first | rfl | (simp; done) | (simp [*]; done)), (by first | rfl | (simp; done) | (simp [*]; done)), H', ⟨Nat.le_refl _⟩, ⟨by (with_reducible repeat (first | refine blk_drewN ?_ _ | refine blk_drew ?_ | refine blk_alloc ?_ _)); exact BK586.out⟩, ⟨by repeat (first | (with_reducible first | exact HB.out | apply below_alloc | apply pw_below_drewN | apply below_drew1 | refine below_set ?_ GE586.out) | exact HB.out)⟩⟩
        case round =>
          clear H'
          try clear c1
          try clear p2
          try clear c3
          try clear c6
          try clear c8
          try clear c15
          try clear hcz10_0
          try clear hcz10_1
          try clear hcz10_2
          try clear hcz10_3
          try clear hcz10_4
          try clear hcz10_5
          try clear hcz13_0
          try clear hcz13_1
          try clear hcz13_2
          try clear hcz13_3
          try clear hcz13_4
          try clear hcz13_5
          try clear hfz10_0
          try clear hfz10_1
          try clear hfz10_2
          try clear hfz10_3
          try clear hfz10_4
          try clear hfz10_5
          try clear hfz13_0
          try clear hfz13_1
          try clear hfz13_2
          try clear hfz13_3
          try clear hfz13_4
          try clear hfz13_5
          try clear p2
          obtain ⟨x7_2, x26_2, rfl, rfl, HA, HK2, BK586, HB⟩ := hrel
          cases gk with
          | zero => exact absurd HA.out (by simp [impl_NearestShape.l0])
          | succ k2 =>
            have H := HA.out
            clear HA
            simp only [impl_NearestShape.l0] at H
            by_cases c16 : x26_2 < (l0.length : Int)
            · rw [if_pos c16] at H
              have c16b0 : decide (x26_2 < (l0.length : Int)) = true := decide_eq_true c16
              clear c16
              by_cases c17 : 0 ≤ x26_2
              · rw [if_pos c17] at H
                have c17b0 : decide (0 ≤ x26_2) = true := decide_eq_true c17
                clear c17
                by_cases c18 : x26_2 < (l0.length : Int)
                · rw [if_pos c18] at H
                  have c18b0 : decide (x26_2 < (l0.length : Int)) = true := decide_eq_true c18
                  clear c18
                  replace H := Option.bind_eq_some_iff.mp H
                  obtain ⟨t594, A190, H⟩ := H
                  replace H : (if 0 ≤ x7_2 then (if x7_2 < (l0.length : Int) then ((impl_Shape_distance.f k2 ((rd_T25 l0 x7_2).f0) ((rd_T25 l0 x7_2).f1) ((rd_T25 l0 x7_2).f2) ((rd_T25 l0 x7_2).f3) ((rd_T25 l0 x7_2).f4) ((rd_T25 l0 x7_2).f5) a1_0 a1_1 a1_2 a1_3 a1_4 a1_5).bind fun t596 => (if t594 < t596 then (impl_NearestShape.l0 k2 l0 x26_2 l0 (l0.length : Int) (wrap64 (x26_2 + 1)) a1_0 a1_1 a1_2 a1_3 a1_4 a1_5) else (impl_NearestShape.l0 k2 l0 x7_2 l0 (l0.length : Int) (wrap64 (x26_2 + 1)) a1_0 a1_1 a1_2 a1_3 a1_4 a1_5))) else (none)) else (none)) = some (r1, r2, r3) := H
                  have A19 := Aside0.mk A190
                  clear A190
                  by_cases c20 : 0 ≤ x7_2
                  · rw [if_pos c20] at H
                    have c20b0 : decide (0 ≤ x7_2) = true := decide_eq_true c20
                    clear c20
                    by_cases c21 : x7_2 < (l0.length : Int)
                    · rw [if_pos c21] at H
                      have c21b0 : decide (x7_2 < (l0.length : Int)) = true := decide_eq_true c21
                      clear c21
                      replace H := Option.bind_eq_some_iff.mp H
                      obtain ⟨t596, A220, H⟩ := H
                      replace H : (if t594 < t596 then (impl_NearestShape.l0 k2 l0 x26_2 l0 (l0.length : Int) (wrap64 (x26_2 + 1)) a1_0 a1_1 a1_2 a1_3 a1_4 a1_5) else (impl_NearestShape.l0 k2 l0 x7_2 l0 (l0.length : Int) (wrap64 (x26_2 + 1)) a1_0 a1_1 a1_2 a1_3 a1_4 a1_5)) = some (r1, r2, r3) := H
                      have A22 := Aside0.mk A220
                      clear A220
                      by_cases c23 : t594 < t596
                      · rw [if_pos c23] at H
                        have c23b0 : decide (t594 < t596) = true := decide_eq_true c23
                        clear c23
                        have H' := Aside0.mk H
                        clear H
                        have p592 : 0 ≤ (x26_2 : Int) := of_decide_eq_true (by first | (with_reducible assumption) | assumption)
                        have q592 : x26_2 < (l0.length : Int) := of_decide_eq_true (by first | (with_reducible assumption) | assumption)
                        obtain ⟨ad592, e592, hx592_0, hx592_1, hx592_2, hx592_3, hx592_4, hx592_5⟩ := at_T25 HR0.out x26_2 p592 q592
                        cases e592
                        replace hx592_0 := (HB.out.cell (World.block_lt_of_cell? w _ hx592_0)).trans hx592_0
                        replace hx592_1 := (HB.out.cell (World.block_lt_of_cell? w _ hx592_1)).trans hx592_1
                        replace hx592_2 := (HB.out.cell (World.block_lt_of_cell? w _ hx592_2)).trans hx592_2
                        replace hx592_3 := (HB.out.cell (World.block_lt_of_cell? w _ hx592_3)).trans hx592_3
                        replace hx592_4 := (HB.out.cell (World.block_lt_of_cell? w _ hx592_4)).trans hx592_4
                        replace hx592_5 := (HB.out.cell (World.block_lt_of_cell? w _ hx592_5)).trans hx592_5
                        replace p592 := eq_true p592
                        replace q592 := eq_true q592
                        try go_wp2_with (first | ((with_reducible refine gate_dst (N := 9) rfl ?_); refine box_event ?hg (N := 9) ?hd (cs := #[.int .i64 0, .int .i64 0, .int .i64 0, .int .i64 0, .int .i64 0, .bool false]) (t := 25) ?hr ?_; (case hd => rfl); (case hg => rfl); (case hr => first | (go_simp; done) | (go_simp; rfl)); intro gb593 hg w24 hbox hb; have n0_ := Aside0.mk (blk_below (g := gb586) (o := .cells #[.int .i64 a1_0, .int .i64 a1_1, .int .i64 a1_2, .int .i64 a1_3, .int .i64 a1_4, .bool a1_5] 25 (0, 0)) (by (with_reducible repeat (first | refine blk_drewN ?_ _ | refine blk_drew ?_ | refine blk_alloc ?_ _)); exact BK586.out) hb); have n1_ := Aside0.mk (below_step (by repeat (first | (with_reducible first | exact HB.out | apply below_alloc | apply pw_below_drewN | apply below_drew1 | refine below_set ?_ GE586.out) | exact HB.out)) hb); have n2_ := Aside0.mk (hbox); have n3_ := Aside0.mk ((by rw [hg]; exact (below_size (by repeat (first | (with_reducible first | exact HB.out | apply below_alloc | apply pw_below_drewN | apply below_drew1 | refine below_set ?_ GE586.out) | exact HB.out))) : w.heap.size ≤ gb593)); have n4_ := Aside0.mk ((by rw [hg]; exact (below_size (by repeat (first | (with_reducible first | exact HB.out | apply below_alloc | apply pw_below_drewN | apply below_drew1 | refine below_set ?_ GE586.out) | exact HB.out))) : w.heap.size ≤ gb593)); have n5_ := Aside0.mk ((by rw [hg]; exact Nat.ne_of_lt (blk_lt (g := gb586) (o := .cells #[.int .i64 a1_0, .int .i64 a1_1, .int .i64 a1_2, .int .i64 a1_3, .int .i64 a1_4, .bool a1_5] 25 (0, 0)) (by (with_reducible repeat (first | refine blk_drewN ?_ _ | refine blk_drew ?_ | refine blk_alloc ?_ _)); exact BK586.out)) : gb586 ≠ gb593)); have n6_ := Aside0.mk ((by rw [hg]; exact Nat.ne_of_gt (blk_lt (g := gb586) (o := .cells #[.int .i64 a1_0, .int .i64 a1_1, .int .i64 a1_2, .int .i64 a1_3, .int .i64 a1_4, .bool a1_5] 25 (0, 0)) (by (with_reducible repeat (first | refine blk_drewN ?_ _ | refine blk_drew ?_ | refine blk_alloc ?_ _)); exact BK586.out)) : gb593 ≠ gb586)); clear BK586; clear HB; have BK586 := n0_; have HB := n1_; have BK593 := n2_; have GW593 := n3_; have GE593 := n4_; have NB586_593 := n5_; have NB593_586 := n6_; clear n0_ n1_ n2_ n3_ n4_ n5_ n6_; clear hb hbox hg; have hnb25 := NB593_586.out; have hnc25 := NB586_593.out; have hcz26_0 : w24.cell? ⟨gb593, 0, none⟩ = some (.int .i64 0) := (blk_cell BK593.out 0).trans rfl; have hcz26_1 : w24.cell? ⟨gb593, 1, none⟩ = some (.int .i64 0) := (blk_cell BK593.out 1).trans rfl; have hcz26_2 : w24.cell? ⟨gb593, 2, none⟩ = some (.int .i64 0) := (blk_cell BK593.out 2).trans rfl; have hcz26_3 : w24.cell? ⟨gb593, 3, none⟩ = some (.int .i64 0) := (blk_cell BK593.out 3).trans rfl; have hcz26_4 : w24.cell? ⟨gb593, 4, none⟩ = some (.int .i64 0) := (blk_cell BK593.out 4).trans rfl; have hcz26_5 : w24.cell? ⟨gb593, 5, none⟩ = some (.bool false) := (blk_cell BK593.out 5).trans rfl; have hfz26_0 := blk_frozen BK593.out 0; have hfz26_1 := blk_frozen BK593.out 1; have hfz26_2 := blk_frozen BK593.out 2; have hfz26_3 := blk_frozen BK593.out 3; have hfz26_4 := blk_frozen BK593.out 4; have hfz26_5 := blk_frozen BK593.out 5))
                        have n0_ : Aside0 (((((((w24.setCell ⟨gb593, 0, none⟩ (.int .i64 ((rd_T25 l0 x26_2).f0))).setCell ⟨gb593, 1, none⟩ (.int .i64 ((rd_T25 l0 x26_2).f1))).setCell ⟨gb593, 2, none⟩ (.int .i64 ((rd_T25 l0 x26_2).f2))).setCell ⟨gb593, 3, none⟩ (.int .i64 ((rd_T25 l0 x26_2).f3))).setCell ⟨gb593, 4, none⟩ (.int .i64 ((rd_T25 l0 x26_2).f4))).setCell ⟨gb593, 5, none⟩ (.bool ((rd_T25 l0 x26_2).f5))).heap[gb586]? = some (.cells #[.int .i64 a1_0, .int .i64 a1_1, .int .i64 a1_2, .int .i64 a1_3, .int .i64 a1_4, .bool a1_5] 25 (0, 0))) := ⟨by (with_reducible repeat (first | refine blk_drewN ?_ _ | refine blk_drew ?_ | refine blk_alloc ?_ _)); refine blk_far ?_ NB586_593.out _; (with_reducible repeat (first | refine blk_drewN ?_ _ | refine blk_drew ?_ | refine blk_alloc ?_ _)); refine blk_far ?_ NB586_593.out _; (with_reducible repeat (first | refine blk_drewN ?_ _ | refine blk_drew ?_ | refine blk_alloc ?_ _)); refine blk_far ?_ NB586_593.out _; (with_reducible repeat (first | refine blk_drewN ?_ _ | refine blk_drew ?_ | refine blk_alloc ?_ _)); refine blk_far ?_ NB586_593.out _; (with_reducible repeat (first | refine blk_drewN ?_ _ | refine blk_drew ?_ | refine blk_alloc ?_ _)); refine blk_far ?_ NB586_593.out _; (with_reducible repeat (first | refine blk_drewN ?_ _ | refine blk_drew ?_ | refine blk_alloc ?_ _)); refine blk_far ?_ NB586_593.out _; (with_reducible repeat (first | refine blk_drewN ?_ _ | refine blk_drew ?_ | refine blk_alloc ?_ _)); exact BK586.out⟩
                        have n1_ : Aside0 (((((((w24.setCell ⟨gb593, 0, none⟩ (.int .i64 ((rd_T25 l0 x26_2).f0))).setCell ⟨gb593, 1, none⟩ (.int .i64 ((rd_T25 l0 x26_2).f1))).setCell ⟨gb593, 2, none⟩ (.int .i64 ((rd_T25 l0 x26_2).f2))).setCell ⟨gb593, 3, none⟩ (.int .i64 ((rd_T25 l0 x26_2).f3))).setCell ⟨gb593, 4, none⟩ (.int .i64 ((rd_T25 l0 x26_2).f4))).setCell ⟨gb593, 5, none⟩ (.bool ((rd_T25 l0 x26_2).f5))).heap[gb593]? = some (.cells #[.int .i64 ((rd_T25 l0 x26_2).f0), .int .i64 ((rd_T25 l0 x26_2).f1), .int .i64 ((rd_T25 l0 x26_2).f2), .int .i64 ((rd_T25 l0 x26_2).f3), .int .i64 ((rd_T25 l0 x26_2).f4), .bool ((rd_T25 l0 x26_2).f5)] 25 (0, 0))) := ⟨by (with_reducible repeat (first | refine blk_drewN ?_ _ | refine blk_drew ?_ | refine blk_alloc ?_ _)); refine blk_put (cs := #[.int .i64 ((rd_T25 l0 x26_2).f0), .int .i64 ((rd_T25 l0 x26_2).f1), .int .i64 ((rd_T25 l0 x26_2).f2), .int .i64 ((rd_T25 l0 x26_2).f3), .int .i64 ((rd_T25 l0 x26_2).f4), .bool false]) ?_ 5 _ rfl; (with_reducible repeat (first | refine blk_drewN ?_ _ | refine blk_drew ?_ | refine blk_alloc ?_ _)); refine blk_put (cs := #[.int .i64 ((rd_T25 l0 x26_2).f0), .int .i64 ((rd_T25 l0 x26_2).f1), .int .i64 ((rd_T25 l0 x26_2).f2), .int .i64 ((rd_T25 l0 x26_2).f3), .int .i64 0, .bool false]) ?_ 4 _ rfl; (with_reducible repeat (first | refine blk_drewN ?_ _ | refine blk_drew ?_ | refine blk_alloc ?_ _)); refine blk_put (cs := #[.int .i64 ((rd_T25 l0 x26_2).f0), .int .i64 ((rd_T25 l0 x26_2).f1), .int .i64 ((rd_T25 l0 x26_2).f2), .int .i64 0, .int .i64 0, .bool false]) ?_ 3 _ rfl; (with_reducible repeat (first | refine blk_drewN ?_ _ | refine blk_drew ?_ | refine blk_alloc ?_ _)); refine blk_put (cs := #[.int .i64 ((rd_T25 l0 x26_2).f0), .int .i64 ((rd_T25 l0 x26_2).f1), .int .i64 0, .int .i64 0, .int .i64 0, .bool false]) ?_ 2 _ rfl; (with_reducible repeat (first | refine blk_drewN ?_ _ | refine blk_drew ?_ | refine blk_alloc ?_ _)); refine blk_put (cs := #[.int .i64 ((rd_T25 l0 x26_2).f0), .int .i64 0, .int .i64 0, .int .i64 0, .int .i64 0, .bool false]) ?_ 1 _ rfl; (with_reducible repeat (first | refine blk_drewN ?_ _ | refine blk_drew ?_ | refine blk_alloc ?_ _)); refine blk_put (cs := #[.int .i64 0, .int .i64 0, .int .i64 0, .int .i64 0, .int .i64 0, .bool false]) ?_ 0 _ rfl; (with_reducible repeat (first | refine blk_drewN ?_ _ | refine blk_drew ?_ | refine blk_alloc ?_ _)); exact BK593.out⟩
                        have n2_ : Aside0 (Below w.heap.size w ((((((w24.setCell ⟨gb593, 0, none⟩ (.int .i64 ((rd_T25 l0 x26_2).f0))).setCell ⟨gb593, 1, none⟩ (.int .i64 ((rd_T25 l0 x26_2).f1))).setCell ⟨gb593, 2, none⟩ (.int .i64 ((rd_T25 l0 x26_2).f2))).setCell ⟨gb593, 3, none⟩ (.int .i64 ((rd_T25 l0 x26_2).f3))).setCell ⟨gb593, 4, none⟩ (.int .i64 ((rd_T25 l0 x26_2).f4))).setCell ⟨gb593, 5, none⟩ (.bool ((rd_T25 l0 x26_2).f5)))) := ⟨by repeat (first | (with_reducible first | exact HB.out | apply below_alloc | apply pw_below_drewN | apply below_drew1 | refine below_set ?_ GE586.out | refine below_set ?_ GE593.out) | exact HB.out)⟩
                        (try clear BK586)
                        (try clear BK593)
                        (try clear HB)
                        generalize ((((((w24.setCell ⟨gb593, 0, none⟩ (.int .i64 ((rd_T25 l0 x26_2).f0))).setCell ⟨gb593, 1, none⟩ (.int .i64 ((rd_T25 l0 x26_2).f1))).setCell ⟨gb593, 2, none⟩ (.int .i64 ((rd_T25 l0 x26_2).f2))).setCell ⟨gb593, 3, none⟩ (.int .i64 ((rd_T25 l0 x26_2).f3))).setCell ⟨gb593, 4, none⟩ (.int .i64 ((rd_T25 l0 x26_2).f4))).setCell ⟨gb593, 5, none⟩ (.bool ((rd_T25 l0 x26_2).f5))) = w27 at n0_ n1_ n2_ ⊢
                        have BK586 := n0_
                        have BK593 := n1_
                        have HB := n2_
                        clear n0_ n1_ n2_
                        have n0_ := Aside0.mk (blk_drew BK586.out)
                        have n1_ := Aside0.mk (blk_drew BK593.out)
                        have n2_ := Aside0.mk (below_drew1 HB.out)
                        clear BK586
                        clear BK593
                        clear HB
                        have BK586 := n0_
                        have BK593 := n1_
                        have HB := n2_
                        clear n0_ n1_ n2_
                        have p595 : 0 ≤ (x7_2 : Int) := of_decide_eq_true (by first | (with_reducible assumption) | assumption)
                        have q595 : x7_2 < (l0.length : Int) := of_decide_eq_true (by first | (with_reducible assumption) | assumption)
                        obtain ⟨ad595, e595, hx595_0, hx595_1, hx595_2, hx595_3, hx595_4, hx595_5⟩ := at_T25 HR0.out x7_2 p595 q595
                        have hw595_5 := hx595_5
                        have hw595_4 := hx595_4
                        have hw595_3 := hx595_3
                        have hw595_2 := hx595_2
                        have hw595_1 := hx595_1
                        have hw595_0 := hx595_0
                        obtain rfl : ad592 = ad595 := (by injection e595)
                        replace hx595_0 := (HB.out.cell (World.block_lt_of_cell? w _ hx595_0)).trans hx595_0
                        replace hx595_1 := (HB.out.cell (World.block_lt_of_cell? w _ hx595_1)).trans hx595_1
                        replace hx595_2 := (HB.out.cell (World.block_lt_of_cell? w _ hx595_2)).trans hx595_2
                        replace hx595_3 := (HB.out.cell (World.block_lt_of_cell? w _ hx595_3)).trans hx595_3
                        replace hx595_4 := (HB.out.cell (World.block_lt_of_cell? w _ hx595_4)).trans hx595_4
                        replace hx595_5 := (HB.out.cell (World.block_lt_of_cell? w _ hx595_5)).trans hx595_5
                        replace p595 := eq_true p595
                        replace q595 := eq_true q595
                        refine start_ (n := 10) (S := fun w' => w'.cell? ⟨gb593, 0, none⟩ = some (.int .i64 ((rd_T25 l0 x26_2).f0)) ∧ w'.cell? ⟨gb593, 1, none⟩ = some (.int .i64 ((rd_T25 l0 x26_2).f1)) ∧ w'.cell? ⟨gb593, 2, none⟩ = some (.int .i64 ((rd_T25 l0 x26_2).f2)) ∧ w'.cell? ⟨gb593, 3, none⟩ = some (.int .i64 ((rd_T25 l0 x26_2).f3)) ∧ w'.cell? ⟨gb593, 4, none⟩ = some (.int .i64 ((rd_T25 l0 x26_2).f4)) ∧ w'.cell? ⟨gb593, 5, none⟩ = some (.bool ((rd_T25 l0 x26_2).f5)) ∧ w'.cell? ⟨gb586, 0, none⟩ = some (.int .i64 a1_0) ∧ w'.cell? ⟨gb586, 1, none⟩ = some (.int .i64 a1_1) ∧ w'.cell? ⟨gb586, 2, none⟩ = some (.int .i64 a1_2) ∧ w'.cell? ⟨gb586, 3, none⟩ = some (.int .i64 a1_3) ∧ w'.cell? ⟨gb586, 4, none⟩ = some (.int .i64 a1_4) ∧ w'.cell? ⟨gb586, 5, none⟩ = some (.bool a1_5) ∧ w'.cell? (ad592.add ((x7_2).toNat * 6)) = some (.int .i64 ((rd_T25 l0 x7_2).f0)) ∧ w'.cell? ⟨(ad592.add ((x7_2).toNat * 6)).block, (ad592.add ((x7_2).toNat * 6)).off + 1, none⟩ = some (.int .i64 ((rd_T25 l0 x7_2).f1)) ∧ w'.cell? ⟨(ad592.add ((x7_2).toNat * 6)).block, (ad592.add ((x7_2).toNat * 6)).off + 2, none⟩ = some (.int .i64 ((rd_T25 l0 x7_2).f2)) ∧ w'.cell? ⟨(ad592.add ((x7_2).toNat * 6)).block, (ad592.add ((x7_2).toNat * 6)).off + 3, none⟩ = some (.int .i64 ((rd_T25 l0 x7_2).f3)) ∧ w'.cell? ⟨(ad592.add ((x7_2).toNat * 6)).block, (ad592.add ((x7_2).toNat * 6)).off + 4, none⟩ = some (.int .i64 ((rd_T25 l0 x7_2).f4)) ∧ w'.cell? ⟨(ad592.add ((x7_2).toNat * 6)).block, (ad592.add ((x7_2).toNat * 6)).off + 5, none⟩ = some (.bool ((rd_T25 l0 x7_2).f5))) (ds := []) #[false, false, false, false, false, false, false, false, false, false] (by kernel_rfl) rfl rfl ⟨(blk_cell BK593.out 0).trans rfl, (blk_cell BK593.out 1).trans rfl, (blk_cell BK593.out 2).trans rfl, (blk_cell BK593.out 3).trans rfl, (blk_cell BK593.out 4).trans rfl, (blk_cell BK593.out 5).trans rfl, (blk_cell BK586.out 0).trans rfl, (blk_cell BK586.out 1).trans rfl, (blk_cell BK586.out 2).trans rfl, (blk_cell BK586.out 3).trans rfl, (blk_cell BK586.out 4).trans rfl, (blk_cell BK586.out 5).trans rfl, ((HB.out.cell (World.block_lt_of_cell? w _ hw595_0)).trans hw595_0), ((HB.out.cell (World.block_lt_of_cell? w _ hw595_1)).trans hw595_1), ((HB.out.cell (World.block_lt_of_cell? w _ hw595_2)).trans hw595_2), ((HB.out.cell (World.block_lt_of_cell? w _ hw595_3)).trans hw595_3), ((HB.out.cell (World.block_lt_of_cell? w _ hw595_4)).trans hw595_4), ((HB.out.cell (World.block_lt_of_cell? w _ hw595_5)).trans hw595_5)⟩ (fun hHeld => ?_); refine with_tabW impl_NearestShape.tab7 impl_NearestShape.bits7 (fun HT_ HW_ => ?_)
                        generalize w27.drew = w28 at BK586 BK593 HB hx595_0 hx595_1 hx595_2 hx595_3 hx595_4 hx595_5 hHeld ⊢
                        refine pure_ (i := 3) (N := some 34) (v := ?_) (a' := ?_) #[false, false, false, true, false, false, false, false, false, false] rfl rfl (any_of HT_.out (by kernel_rfl)) (fun _ _ _ h => h) (Or.inl ⟨by rfl, ?_⟩) ?_ ?_
                        rotate_left
                        · intro w'
                          go_simp
                          with_reducible rfl
                        rotate_left
                        · simp only [Act.put, List.setIfInBounds_toArray, List.set_cons_zero, List.set_cons_succ, i64_w, i32_w]
                          rfl
                        refine pure_ (i := 4) (N := some 35) (v := ?_) (a' := ?_) #[false, false, false, true, true, false, false, false, false, false] rfl rfl (any_of HT_.out (by kernel_rfl)) (fun _ _ _ h => h) (Or.inl ⟨by rfl, ?_⟩) ?_ ?_
                        rotate_left
                        · intro w'
                          go_simp
                          with_reducible rfl
                        rotate_left
                        · simp only [Act.put, List.setIfInBounds_toArray, List.set_cons_zero, List.set_cons_succ, i64_w, i32_w]
                          rfl
                        refine pure_ (i := 5) (N := some 36) (v := ?_) (a' := ?_) #[false, false, false, true, true, true, false, false, false, false] rfl rfl (any_of HT_.out (by kernel_rfl)) (fun _ _ _ h => h) (Or.inl ⟨by rfl, ?_⟩) ?_ ?_
                        rotate_left
                        · intro w'
                          go_simp
                          with_reducible rfl
                        rotate_left
                        · simp only [Act.put, List.setIfInBounds_toArray, List.set_cons_zero, List.set_cons_succ, i64_w, i32_w]
                          rfl
                        refine take_ (i := 0) (N := some 31) (v := ?_) (a' := ?_) #[true, false, false, true, true, true, false, false, false, false] rfl rfl (take_ofW HT_.out HW_.out (by kernel_rfl)) (fun _ _ _ h => h) (Or.inl ⟨by rfl, ?_⟩) hHeld ?_ ?_
                        rotate_left
                        · rintro w' ⟨s0, s1, s2, s3, s4, s5, s6, s7, s8, s9, s10, s11, s12, s13, s14, s15, s16, s17⟩
                          go_simp
                          with_reducible rfl
                        rotate_left
                        · simp only [Act.put, List.setIfInBounds_toArray, List.set_cons_zero, List.set_cons_succ, i64_w, i32_w]
                          rfl
                        refine take_ (i := 1) (N := some 32) (v := ?_) (a' := ?_) #[true, true, false, true, true, true, false, false, false, false] rfl rfl (take_ofW HT_.out HW_.out (by kernel_rfl)) (fun _ _ _ h => h) (Or.inl ⟨by rfl, ?_⟩) hHeld ?_ ?_
                        rotate_left
                        · rintro w' ⟨s0, s1, s2, s3, s4, s5, s6, s7, s8, s9, s10, s11, s12, s13, s14, s15, s16, s17⟩
                          go_simp
                          with_reducible rfl
                        rotate_left
                        · simp only [Act.put, List.setIfInBounds_toArray, List.set_cons_zero, List.set_cons_succ, i64_w, i32_w]
                          rfl
                        refine take_ (i := 6) (N := some 37) (v := ?_) (a' := ?_) #[true, true, false, true, true, true, true, false, false, false] rfl rfl (take_ofW HT_.out HW_.out (by kernel_rfl)) (fun _ _ _ h => h) (Or.inl ⟨by rfl, ?_⟩) hHeld ?_ ?_
                        rotate_left
                        · rintro w' ⟨s0, s1, s2, s3, s4, s5, s6, s7, s8, s9, s10, s11, s12, s13, s14, s15, s16, s17⟩
                          go_simp
                          with_reducible rfl
                        rotate_left
                        · simp only [Act.put, List.setIfInBounds_toArray, List.set_cons_zero, List.set_cons_succ, i64_w, i32_w]
                          rfl
                        refine take_ (i := 7) (N := some 38) (v := ?_) (a' := ?_) #[true, true, false, true, true, true, true, true, false, false] rfl rfl (take_ofW HT_.out HW_.out (by kernel_rfl)) (fun _ _ _ h => h) (Or.inl ⟨by rfl, ?_⟩) hHeld ?_ ?_
                        rotate_left
                        · rintro w' ⟨s0, s1, s2, s3, s4, s5, s6, s7, s8, s9, s10, s11, s12, s13, s14, s15, s16, s17⟩
                          go_simp
                          with_reducible rfl
                        rotate_left
                        · simp only [Act.put, List.setIfInBounds_toArray, List.set_cons_zero, List.set_cons_succ, i64_w, i32_w]
                          rfl
                        refine one_ (i := 2) (N := some 33) #[true, true, true, true, true, true, true, true, false, false] rfl rfl (one_of HT_.out (by kernel_rfl)) (by decide) (fun K hK => ?_)
                        refine goes_ Try.func59 (by kernel_rfl) rfl #[.agg #[.int .i64 ((rd_T25 l0 x26_2).f0), .int .i64 ((rd_T25 l0 x26_2).f1), .int .i64 ((rd_T25 l0 x26_2).f2), .int .i64 ((rd_T25 l0 x26_2).f3), .int .i64 ((rd_T25 l0 x26_2).f4), .bool ((rd_T25 l0 x26_2).f5)], .agg #[.int .i64 a1_0, .int .i64 a1_1, .int .i64 a1_2, .int .i64 a1_3, .int .i64 a1_4, .bool a1_5]] (by rfl) rfl rfl (by (try simp only [List.map_toArray, List.map_cons, List.map_nil]); first | done | rfl | (simp only [List.length_drop, List.length_take]; rfl)) ?_
                        with_reducible refine (impl_Shape_distance.calls k2 ((rd_T25 l0 x26_2).f0) ((rd_T25 l0 x26_2).f1) ((rd_T25 l0 x26_2).f2) ((rd_T25 l0 x26_2).f3) ((rd_T25 l0 x26_2).f4) ((rd_T25 l0 x26_2).f5) a1_0 a1_1 a1_2 a1_3 a1_4 a1_5 t594 _ A19.out).mono ?_
                        rintro e w29 ⟨rfl, hb⟩
                        refine ⟨_, rfl, ?_⟩
                        have n0_ := Aside0.mk (blk_below (g := gb586) (o := .cells #[.int .i64 a1_0, .int .i64 a1_1, .int .i64 a1_2, .int .i64 a1_3, .int .i64 a1_4, .bool a1_5] 25 (0, 0)) (by (with_reducible repeat (first | refine blk_drewN ?_ _ | refine blk_drew ?_ | refine blk_alloc ?_ _)); exact BK586.out) hb)
                        have n1_ := Aside0.mk (blk_below (g := gb593) (o := .cells #[.int .i64 ((rd_T25 l0 x26_2).f0), .int .i64 ((rd_T25 l0 x26_2).f1), .int .i64 ((rd_T25 l0 x26_2).f2), .int .i64 ((rd_T25 l0 x26_2).f3), .int .i64 ((rd_T25 l0 x26_2).f4), .bool ((rd_T25 l0 x26_2).f5)] 25 (0, 0)) (by (with_reducible repeat (first | refine blk_drewN ?_ _ | refine blk_drew ?_ | refine blk_alloc ?_ _)); exact BK593.out) hb)
                        have n2_ := Aside0.mk (below_step (by repeat (first | (with_reducible first | exact HB.out | apply below_alloc | apply pw_below_drewN | apply below_drew1 | refine below_set ?_ GE586.out | refine below_set ?_ GE593.out) | exact HB.out)) hb)
                        clear BK586
                        clear BK593
                        clear HB
                        have BK586 := n0_
                        have BK593 := n1_
                        have HB := n2_
                        clear n0_ n1_ n2_
                        (try clear hb)
                        (try clear hb2)
                        (try clear hk)
                        (try clear hi)
                        refine hK.out _ _ ⟨(blk_cell BK593.out 0).trans rfl, (blk_cell BK593.out 1).trans rfl, (blk_cell BK593.out 2).trans rfl, (blk_cell BK593.out 3).trans rfl, (blk_cell BK593.out 4).trans rfl, (blk_cell BK593.out 5).trans rfl, (blk_cell BK586.out 0).trans rfl, (blk_cell BK586.out 1).trans rfl, (blk_cell BK586.out 2).trans rfl, (blk_cell BK586.out 3).trans rfl, (blk_cell BK586.out 4).trans rfl, (blk_cell BK586.out 5).trans rfl, ((HB.out.cell (World.block_lt_of_cell? w _ hw595_0)).trans hw595_0), ((HB.out.cell (World.block_lt_of_cell? w _ hw595_1)).trans hw595_1), ((HB.out.cell (World.block_lt_of_cell? w _ hw595_2)).trans hw595_2), ((HB.out.cell (World.block_lt_of_cell? w _ hw595_3)).trans hw595_3), ((HB.out.cell (World.block_lt_of_cell? w _ hw595_4)).trans hw595_4), ((HB.out.cell (World.block_lt_of_cell? w _ hw595_5)).trans hw595_5)⟩ (fun hHeld => ?_)
                        clear hK K
                        refine norm_ (a' := ?_) ?_ ?_
                        rotate_left
                        · show Act.put _ (some 33) _ = _
                          simp only [Act.put, List.setIfInBounds_toArray, List.set_cons_zero, List.set_cons_succ, i64_w, i32_w]
                          rfl
                        refine one_ (i := 8) (N := some 39) #[true, true, true, true, true, true, true, true, true, false] rfl rfl (one_of HT_.out (by kernel_rfl)) (by decide) (fun K hK => ?_)
                        refine goes_ Try.func59 (by kernel_rfl) rfl #[.agg #[.int .i64 ((rd_T25 l0 x7_2).f0), .int .i64 ((rd_T25 l0 x7_2).f1), .int .i64 ((rd_T25 l0 x7_2).f2), .int .i64 ((rd_T25 l0 x7_2).f3), .int .i64 ((rd_T25 l0 x7_2).f4), .bool ((rd_T25 l0 x7_2).f5)], .agg #[.int .i64 a1_0, .int .i64 a1_1, .int .i64 a1_2, .int .i64 a1_3, .int .i64 a1_4, .bool a1_5]] (by rfl) rfl rfl (by (try simp only [List.map_toArray, List.map_cons, List.map_nil]); first | done | rfl | (simp only [List.length_drop, List.length_take]; rfl)) ?_
                        with_reducible refine (impl_Shape_distance.calls k2 ((rd_T25 l0 x7_2).f0) ((rd_T25 l0 x7_2).f1) ((rd_T25 l0 x7_2).f2) ((rd_T25 l0 x7_2).f3) ((rd_T25 l0 x7_2).f4) ((rd_T25 l0 x7_2).f5) a1_0 a1_1 a1_2 a1_3 a1_4 a1_5 t596 _ A22.out).mono ?_
                        rintro e w30 ⟨rfl, hb⟩
                        refine ⟨_, rfl, ?_⟩
                        have n0_ := Aside0.mk (blk_below (g := gb586) (o := .cells #[.int .i64 a1_0, .int .i64 a1_1, .int .i64 a1_2, .int .i64 a1_3, .int .i64 a1_4, .bool a1_5] 25 (0, 0)) (by (with_reducible repeat (first | refine blk_drewN ?_ _ | refine blk_drew ?_ | refine blk_alloc ?_ _)); exact BK586.out) hb)
                        have n1_ := Aside0.mk (blk_below (g := gb593) (o := .cells #[.int .i64 ((rd_T25 l0 x26_2).f0), .int .i64 ((rd_T25 l0 x26_2).f1), .int .i64 ((rd_T25 l0 x26_2).f2), .int .i64 ((rd_T25 l0 x26_2).f3), .int .i64 ((rd_T25 l0 x26_2).f4), .bool ((rd_T25 l0 x26_2).f5)] 25 (0, 0)) (by (with_reducible repeat (first | refine blk_drewN ?_ _ | refine blk_drew ?_ | refine blk_alloc ?_ _)); exact BK593.out) hb)
                        have n2_ := Aside0.mk (below_step (by repeat (first | (with_reducible first | exact HB.out | apply below_alloc | apply pw_below_drewN | apply below_drew1 | refine below_set ?_ GE586.out | refine below_set ?_ GE593.out) | exact HB.out)) hb)
                        clear BK586
                        clear BK593
                        clear HB
                        have BK586 := n0_
                        have BK593 := n1_
                        have HB := n2_
                        clear n0_ n1_ n2_
                        (try clear hb)
                        (try clear hb2)
                        (try clear hk)
                        (try clear hi)
                        refine hK.out _ _ ⟨(blk_cell BK593.out 0).trans rfl, (blk_cell BK593.out 1).trans rfl, (blk_cell BK593.out 2).trans rfl, (blk_cell BK593.out 3).trans rfl, (blk_cell BK593.out 4).trans rfl, (blk_cell BK593.out 5).trans rfl, (blk_cell BK586.out 0).trans rfl, (blk_cell BK586.out 1).trans rfl, (blk_cell BK586.out 2).trans rfl, (blk_cell BK586.out 3).trans rfl, (blk_cell BK586.out 4).trans rfl, (blk_cell BK586.out 5).trans rfl, ((HB.out.cell (World.block_lt_of_cell? w _ hw595_0)).trans hw595_0), ((HB.out.cell (World.block_lt_of_cell? w _ hw595_1)).trans hw595_1), ((HB.out.cell (World.block_lt_of_cell? w _ hw595_2)).trans hw595_2), ((HB.out.cell (World.block_lt_of_cell? w _ hw595_3)).trans hw595_3), ((HB.out.cell (World.block_lt_of_cell? w _ hw595_4)).trans hw595_4), ((HB.out.cell (World.block_lt_of_cell? w _ hw595_5)).trans hw595_5)⟩ (fun hHeld => ?_)
                        clear hK K
                        refine norm_ (a' := ?_) ?_ ?_
                        rotate_left
                        · show Act.put _ (some 39) _ = _
                          simp only [Act.put, List.setIfInBounds_toArray, List.set_cons_zero, List.set_cons_succ, i64_w, i32_w]
                          rfl
                        refine pure_ (i := 9) (N := some 40) (v := ?_) (a' := ?_) #[true, true, true, true, true, true, true, true, true, true] rfl rfl (any_of HT_.out (by kernel_rfl)) (fun _ _ _ h => h) (Or.inl ⟨by rfl, ?_⟩) ?_ ?_
                        rotate_left
                        · intro w'
                          go_simp
                          with_reducible rfl
                        rotate_left
                        · simp only [Act.put, List.setIfInBounds_toArray, List.set_cons_zero, List.set_cons_succ, i64_w, i32_w]
                          rfl
                        refine done_ (done_of HT_.out (by kernel_rfl)) ?_
                        try go_wp2
                        go_roundg k2
                        case measure => have := HJ2.out; have := HK2.out; omega
                        case rel => exact ⟨(x26_2), (wrap64 (x26_2 + 1)), (by first | rfl | (simp; done) | (simp [*]; done)), (by first | rfl | (simp; done) | (simp [*]; done)), H', ⟨by have := HJ2.out; have := HK2.out; omega⟩, ⟨by (with_reducible repeat (first | refine blk_drewN ?_ _ | refine blk_drew ?_ | refine blk_alloc ?_ _)); exact BK586.out⟩, ⟨by repeat (first | (with_reducible first | exact HB.out | apply below_alloc | apply pw_below_drewN | apply below_drew1 | refine below_set ?_ GE586.out | refine below_set ?_ GE593.out) | exact HB.out)⟩⟩
                      · rw [if_neg c23] at H
                        have c23b0 : decide (t594 < t596) = false := decide_eq_false c23
                        clear c23
                        have H' := Aside0.mk H
                        clear H
                        have p592 : 0 ≤ (x26_2 : Int) := of_decide_eq_true (by first | (with_reducible assumption) | assumption)
                        have q592 : x26_2 < (l0.length : Int) := of_decide_eq_true (by first | (with_reducible assumption) | assumption)
                        obtain ⟨ad592, e592, hx592_0, hx592_1, hx592_2, hx592_3, hx592_4, hx592_5⟩ := at_T25 HR0.out x26_2 p592 q592
                        cases e592
                        replace hx592_0 := (HB.out.cell (World.block_lt_of_cell? w _ hx592_0)).trans hx592_0
                        replace hx592_1 := (HB.out.cell (World.block_lt_of_cell? w _ hx592_1)).trans hx592_1
                        replace hx592_2 := (HB.out.cell (World.block_lt_of_cell? w _ hx592_2)).trans hx592_2
                        replace hx592_3 := (HB.out.cell (World.block_lt_of_cell? w _ hx592_3)).trans hx592_3
                        replace hx592_4 := (HB.out.cell (World.block_lt_of_cell? w _ hx592_4)).trans hx592_4
                        replace hx592_5 := (HB.out.cell (World.block_lt_of_cell? w _ hx592_5)).trans hx592_5
                        replace p592 := eq_true p592
                        replace q592 := eq_true q592
                        try go_wp2_with (first | ((with_reducible refine gate_dst (N := 9) rfl ?_); refine box_event ?hg (N := 9) ?hd (cs := #[.int .i64 0, .int .i64 0, .int .i64 0, .int .i64 0, .int .i64 0, .bool false]) (t := 25) ?hr ?_; (case hd => rfl); (case hg => rfl); (case hr => first | (go_simp; done) | (go_simp; rfl)); intro gb593 hg w31 hbox hb; have n0_ := Aside0.mk (blk_below (g := gb586) (o := .cells #[.int .i64 a1_0, .int .i64 a1_1, .int .i64 a1_2, .int .i64 a1_3, .int .i64 a1_4, .bool a1_5] 25 (0, 0)) (by (with_reducible repeat (first | refine blk_drewN ?_ _ | refine blk_drew ?_ | refine blk_alloc ?_ _)); exact BK586.out) hb); have n1_ := Aside0.mk (below_step (by repeat (first | (with_reducible first | exact HB.out | apply below_alloc | apply pw_below_drewN | apply below_drew1 | refine below_set ?_ GE586.out) | exact HB.out)) hb); have n2_ := Aside0.mk (hbox); have n3_ := Aside0.mk ((by rw [hg]; exact (below_size (by repeat (first | (with_reducible first | exact HB.out | apply below_alloc | apply pw_below_drewN | apply below_drew1 | refine below_set ?_ GE586.out) | exact HB.out))) : w.heap.size ≤ gb593)); have n4_ := Aside0.mk ((by rw [hg]; exact (below_size (by repeat (first | (with_reducible first | exact HB.out | apply below_alloc | apply pw_below_drewN | apply below_drew1 | refine below_set ?_ GE586.out) | exact HB.out))) : w.heap.size ≤ gb593)); have n5_ := Aside0.mk ((by rw [hg]; exact Nat.ne_of_lt (blk_lt (g := gb586) (o := .cells #[.int .i64 a1_0, .int .i64 a1_1, .int .i64 a1_2, .int .i64 a1_3, .int .i64 a1_4, .bool a1_5] 25 (0, 0)) (by (with_reducible repeat (first | refine blk_drewN ?_ _ | refine blk_drew ?_ | refine blk_alloc ?_ _)); exact BK586.out)) : gb586 ≠ gb593)); have n6_ := Aside0.mk ((by rw [hg]; exact Nat.ne_of_gt (blk_lt (g := gb586) (o := .cells #[.int .i64 a1_0, .int .i64 a1_1, .int .i64 a1_2, .int .i64 a1_3, .int .i64 a1_4, .bool a1_5] 25 (0, 0)) (by (with_reducible repeat (first | refine blk_drewN ?_ _ | refine blk_drew ?_ | refine blk_alloc ?_ _)); exact BK586.out)) : gb593 ≠ gb586)); clear BK586; clear HB; have BK586 := n0_; have HB := n1_; have BK593 := n2_; have GW593 := n3_; have GE593 := n4_; have NB586_593 := n5_; have NB593_586 := n6_; clear n0_ n1_ n2_ n3_ n4_ n5_ n6_; clear hb hbox hg; have hnb32 := NB593_586.out; have hnc32 := NB586_593.out; have hcz33_0 : w31.cell? ⟨gb593, 0, none⟩ = some (.int .i64 0) := (blk_cell BK593.out 0).trans rfl; have hcz33_1 : w31.cell? ⟨gb593, 1, none⟩ = some (.int .i64 0) := (blk_cell BK593.out 1).trans rfl; have hcz33_2 : w31.cell? ⟨gb593, 2, none⟩ = some (.int .i64 0) := (blk_cell BK593.out 2).trans rfl; have hcz33_3 : w31.cell? ⟨gb593, 3, none⟩ = some (.int .i64 0) := (blk_cell BK593.out 3).trans rfl; have hcz33_4 : w31.cell? ⟨gb593, 4, none⟩ = some (.int .i64 0) := (blk_cell BK593.out 4).trans rfl; have hcz33_5 : w31.cell? ⟨gb593, 5, none⟩ = some (.bool false) := (blk_cell BK593.out 5).trans rfl; have hfz33_0 := blk_frozen BK593.out 0; have hfz33_1 := blk_frozen BK593.out 1; have hfz33_2 := blk_frozen BK593.out 2; have hfz33_3 := blk_frozen BK593.out 3; have hfz33_4 := blk_frozen BK593.out 4; have hfz33_5 := blk_frozen BK593.out 5))
                        have n0_ : Aside0 (((((((w31.setCell ⟨gb593, 0, none⟩ (.int .i64 ((rd_T25 l0 x26_2).f0))).setCell ⟨gb593, 1, none⟩ (.int .i64 ((rd_T25 l0 x26_2).f1))).setCell ⟨gb593, 2, none⟩ (.int .i64 ((rd_T25 l0 x26_2).f2))).setCell ⟨gb593, 3, none⟩ (.int .i64 ((rd_T25 l0 x26_2).f3))).setCell ⟨gb593, 4, none⟩ (.int .i64 ((rd_T25 l0 x26_2).f4))).setCell ⟨gb593, 5, none⟩ (.bool ((rd_T25 l0 x26_2).f5))).heap[gb586]? = some (.cells #[.int .i64 a1_0, .int .i64 a1_1, .int .i64 a1_2, .int .i64 a1_3, .int .i64 a1_4, .bool a1_5] 25 (0, 0))) := ⟨by (with_reducible repeat (first | refine blk_drewN ?_ _ | refine blk_drew ?_ | refine blk_alloc ?_ _)); refine blk_far ?_ NB586_593.out _; (with_reducible repeat (first | refine blk_drewN ?_ _ | refine blk_drew ?_ | refine blk_alloc ?_ _)); refine blk_far ?_ NB586_593.out _; (with_reducible repeat (first | refine blk_drewN ?_ _ | refine blk_drew ?_ | refine blk_alloc ?_ _)); refine blk_far ?_ NB586_593.out _; (with_reducible repeat (first | refine blk_drewN ?_ _ | refine blk_drew ?_ | refine blk_alloc ?_ _)); refine blk_far ?_ NB586_593.out _; (with_reducible repeat (first | refine blk_drewN ?_ _ | refine blk_drew ?_ | refine blk_alloc ?_ _)); refine blk_far ?_ NB586_593.out _; (with_reducible repeat (first | refine blk_drewN ?_ _ | refine blk_drew ?_ | refine blk_alloc ?_ _)); refine blk_far ?_ NB586_593.out _; (with_reducible repeat (first | refine blk_drewN ?_ _ | refine blk_drew ?_ | refine blk_alloc ?_ _)); exact BK586.out⟩
                        have n1_ : Aside0 (((((((w31.setCell ⟨gb593, 0, none⟩ (.int .i64 ((rd_T25 l0 x26_2).f0))).setCell ⟨gb593, 1, none⟩ (.int .i64 ((rd_T25 l0 x26_2).f1))).setCell ⟨gb593, 2, none⟩ (.int .i64 ((rd_T25 l0 x26_2).f2))).setCell ⟨gb593, 3, none⟩ (.int .i64 ((rd_T25 l0 x26_2).f3))).setCell ⟨gb593, 4, none⟩ (.int .i64 ((rd_T25 l0 x26_2).f4))).setCell ⟨gb593, 5, none⟩ (.bool ((rd_T25 l0 x26_2).f5))).heap[gb593]? = some (.cells #[.int .i64 ((rd_T25 l0 x26_2).f0), .int .i64 ((rd_T25 l0 x26_2).f1), .int .i64 ((rd_T25 l0 x26_2).f2), .int .i64 ((rd_T25 l0 x26_2).f3), .int .i64 ((rd_T25 l0 x26_2).f4), .bool ((rd_T25 l0 x26_2).f5)] 25 (0, 0))) := ⟨by (with_reducible repeat (first | refine blk_drewN ?_ _ | refine blk_drew ?_ | refine blk_alloc ?_ _)); refine blk_put (cs := #[.int .i64 ((rd_T25 l0 x26_2).f0), .int .i64 ((rd_T25 l0 x26_2).f1), .int .i64 ((rd_T25 l0 x26_2).f2), .int .i64 ((rd_T25 l0 x26_2).f3), .int .i64 ((rd_T25 l0 x26_2).f4), .bool false]) ?_ 5 _ rfl; (with_reducible repeat (first | refine blk_drewN ?_ _ | refine blk_drew ?_ | refine blk_alloc ?_ _)); refine blk_put (cs := #[.int .i64 ((rd_T25 l0 x26_2).f0), .int .i64 ((rd_T25 l0 x26_2).f1), .int .i64 ((rd_T25 l0 x26_2).f2), .int .i64 ((rd_T25 l0 x26_2).f3), .int .i64 0, .bool false]) ?_ 4 _ rfl; (with_reducible repeat (first | refine blk_drewN ?_ _ | refine blk_drew ?_ | refine blk_alloc ?_ _)); refine blk_put (cs := #[.int .i64 ((rd_T25 l0 x26_2).f0), .int .i64 ((rd_T25 l0 x26_2).f1), .int .i64 ((rd_T25 l0 x26_2).f2), .int .i64 0, .int .i64 0, .bool false]) ?_ 3 _ rfl; (with_reducible repeat (first | refine blk_drewN ?_ _ | refine blk_drew ?_ | refine blk_alloc ?_ _)); refine blk_put (cs := #[.int .i64 ((rd_T25 l0 x26_2).f0), .int .i64 ((rd_T25 l0 x26_2).f1), .int .i64 0, .int .i64 0, .int .i64 0, .bool false]) ?_ 2 _ rfl; (with_reducible repeat (first | refine blk_drewN ?_ _ | refine blk_drew ?_ | refine blk_alloc ?_ _)); refine blk_put (cs := #[.int .i64 ((rd_T25 l0 x26_2).f0), .int .i64 0, .int .i64 0, .int .i64 0, .int .i64 0, .bool false]) ?_ 1 _ rfl; (with_reducible repeat (first | refine blk_drewN ?_ _ | refine blk_drew ?_ | refine blk_alloc ?_ _)); refine blk_put (cs := #[.int .i64 0, .int .i64 0, .int .i64 0, .int .i64 0, .int .i64 0, .bool false]) ?_ 0 _ rfl; (with_reducible repeat (first | refine blk_drewN ?_ _ | refine blk_drew ?_ | refine blk_alloc ?_ _)); exact BK593.out⟩
                        have n2_ : Aside0 (Below w.heap.size w ((((((w31.setCell ⟨gb593, 0, none⟩ (.int .i64 ((rd_T25 l0 x26_2).f0))).setCell ⟨gb593, 1, none⟩ (.int .i64 ((rd_T25 l0 x26_2).f1))).setCell ⟨gb593, 2, none⟩ (.int .i64 ((rd_T25 l0 x26_2).f2))).setCell ⟨gb593, 3, none⟩ (.int .i64 ((rd_T25 l0 x26_2).f3))).setCell ⟨gb593, 4, none⟩ (.int .i64 ((rd_T25 l0 x26_2).f4))).setCell ⟨gb593, 5, none⟩ (.bool ((rd_T25 l0 x26_2).f5)))) := ⟨by repeat (first | (with_reducible first | exact HB.out | apply below_alloc | apply pw_below_drewN | apply below_drew1 | refine below_set ?_ GE586.out | refine below_set ?_ GE593.out) | exact HB.out)⟩
                        (try clear BK586)
                        (try clear BK593)
                        (try clear HB)
                        generalize ((((((w31.setCell ⟨gb593, 0, none⟩ (.int .i64 ((rd_T25 l0 x26_2).f0))).setCell ⟨gb593, 1, none⟩ (.int .i64 ((rd_T25 l0 x26_2).f1))).setCell ⟨gb593, 2, none⟩ (.int .i64 ((rd_T25 l0 x26_2).f2))).setCell ⟨gb593, 3, none⟩ (.int .i64 ((rd_T25 l0 x26_2).f3))).setCell ⟨gb593, 4, none⟩ (.int .i64 ((rd_T25 l0 x26_2).f4))).setCell ⟨gb593, 5, none⟩ (.bool ((rd_T25 l0 x26_2).f5))) = w34 at n0_ n1_ n2_ ⊢
                        have BK586 := n0_
                        have BK593 := n1_
                        have HB := n2_
                        clear n0_ n1_ n2_
                        have n0_ := Aside0.mk (blk_drew BK586.out)
                        have n1_ := Aside0.mk (blk_drew BK593.out)
                        have n2_ := Aside0.mk (below_drew1 HB.out)
                        clear BK586
                        clear BK593
                        clear HB
                        have BK586 := n0_
                        have BK593 := n1_
                        have HB := n2_
                        clear n0_ n1_ n2_
                        have p595 : 0 ≤ (x7_2 : Int) := of_decide_eq_true (by first | (with_reducible assumption) | assumption)
                        have q595 : x7_2 < (l0.length : Int) := of_decide_eq_true (by first | (with_reducible assumption) | assumption)
                        obtain ⟨ad595, e595, hx595_0, hx595_1, hx595_2, hx595_3, hx595_4, hx595_5⟩ := at_T25 HR0.out x7_2 p595 q595
                        have hw595_5 := hx595_5
                        have hw595_4 := hx595_4
                        have hw595_3 := hx595_3
                        have hw595_2 := hx595_2
                        have hw595_1 := hx595_1
                        have hw595_0 := hx595_0
                        obtain rfl : ad592 = ad595 := (by injection e595)
                        replace hx595_0 := (HB.out.cell (World.block_lt_of_cell? w _ hx595_0)).trans hx595_0
                        replace hx595_1 := (HB.out.cell (World.block_lt_of_cell? w _ hx595_1)).trans hx595_1
                        replace hx595_2 := (HB.out.cell (World.block_lt_of_cell? w _ hx595_2)).trans hx595_2
                        replace hx595_3 := (HB.out.cell (World.block_lt_of_cell? w _ hx595_3)).trans hx595_3
                        replace hx595_4 := (HB.out.cell (World.block_lt_of_cell? w _ hx595_4)).trans hx595_4
                        replace hx595_5 := (HB.out.cell (World.block_lt_of_cell? w _ hx595_5)).trans hx595_5
                        replace p595 := eq_true p595
                        replace q595 := eq_true q595
                        refine start_ (n := 10) (S := fun w' => w'.cell? ⟨gb593, 0, none⟩ = some (.int .i64 ((rd_T25 l0 x26_2).f0)) ∧ w'.cell? ⟨gb593, 1, none⟩ = some (.int .i64 ((rd_T25 l0 x26_2).f1)) ∧ w'.cell? ⟨gb593, 2, none⟩ = some (.int .i64 ((rd_T25 l0 x26_2).f2)) ∧ w'.cell? ⟨gb593, 3, none⟩ = some (.int .i64 ((rd_T25 l0 x26_2).f3)) ∧ w'.cell? ⟨gb593, 4, none⟩ = some (.int .i64 ((rd_T25 l0 x26_2).f4)) ∧ w'.cell? ⟨gb593, 5, none⟩ = some (.bool ((rd_T25 l0 x26_2).f5)) ∧ w'.cell? ⟨gb586, 0, none⟩ = some (.int .i64 a1_0) ∧ w'.cell? ⟨gb586, 1, none⟩ = some (.int .i64 a1_1) ∧ w'.cell? ⟨gb586, 2, none⟩ = some (.int .i64 a1_2) ∧ w'.cell? ⟨gb586, 3, none⟩ = some (.int .i64 a1_3) ∧ w'.cell? ⟨gb586, 4, none⟩ = some (.int .i64 a1_4) ∧ w'.cell? ⟨gb586, 5, none⟩ = some (.bool a1_5) ∧ w'.cell? (ad592.add ((x7_2).toNat * 6)) = some (.int .i64 ((rd_T25 l0 x7_2).f0)) ∧ w'.cell? ⟨(ad592.add ((x7_2).toNat * 6)).block, (ad592.add ((x7_2).toNat * 6)).off + 1, none⟩ = some (.int .i64 ((rd_T25 l0 x7_2).f1)) ∧ w'.cell? ⟨(ad592.add ((x7_2).toNat * 6)).block, (ad592.add ((x7_2).toNat * 6)).off + 2, none⟩ = some (.int .i64 ((rd_T25 l0 x7_2).f2)) ∧ w'.cell? ⟨(ad592.add ((x7_2).toNat * 6)).block, (ad592.add ((x7_2).toNat * 6)).off + 3, none⟩ = some (.int .i64 ((rd_T25 l0 x7_2).f3)) ∧ w'.cell? ⟨(ad592.add ((x7_2).toNat * 6)).block, (ad592.add ((x7_2).toNat * 6)).off + 4, none⟩ = some (.int .i64 ((rd_T25 l0 x7_2).f4)) ∧ w'.cell? ⟨(ad592.add ((x7_2).toNat * 6)).block, (ad592.add ((x7_2).toNat * 6)).off + 5, none⟩ = some (.bool ((rd_T25 l0 x7_2).f5))) (ds := []) #[false, false, false, false, false, false, false, false, false, false] (by kernel_rfl) rfl rfl ⟨(blk_cell BK593.out 0).trans rfl, (blk_cell BK593.out 1).trans rfl, (blk_cell BK593.out 2).trans rfl, (blk_cell BK593.out 3).trans rfl, (blk_cell BK593.out 4).trans rfl, (blk_cell BK593.out 5).trans rfl, (blk_cell BK586.out 0).trans rfl, (blk_cell BK586.out 1).trans rfl, (blk_cell BK586.out 2).trans rfl, (blk_cell BK586.out 3).trans rfl, (blk_cell BK586.out 4).trans rfl, (blk_cell BK586.out 5).trans rfl, ((HB.out.cell (World.block_lt_of_cell? w _ hw595_0)).trans hw595_0), ((HB.out.cell (World.block_lt_of_cell? w _ hw595_1)).trans hw595_1), ((HB.out.cell (World.block_lt_of_cell? w _ hw595_2)).trans hw595_2), ((HB.out.cell (World.block_lt_of_cell? w _ hw595_3)).trans hw595_3), ((HB.out.cell (World.block_lt_of_cell? w _ hw595_4)).trans hw595_4), ((HB.out.cell (World.block_lt_of_cell? w _ hw595_5)).trans hw595_5)⟩ (fun hHeld => ?_); refine with_tabW impl_NearestShape.tab7 impl_NearestShape.bits7 (fun HT_ HW_ => ?_)
                        generalize w34.drew = w35 at BK586 BK593 HB hx595_0 hx595_1 hx595_2 hx595_3 hx595_4 hx595_5 hHeld ⊢
                        refine pure_ (i := 3) (N := some 34) (v := ?_) (a' := ?_) #[false, false, false, true, false, false, false, false, false, false] rfl rfl (any_of HT_.out (by kernel_rfl)) (fun _ _ _ h => h) (Or.inl ⟨by rfl, ?_⟩) ?_ ?_
                        rotate_left
                        · intro w'
                          go_simp
                          with_reducible rfl
                        rotate_left
                        · simp only [Act.put, List.setIfInBounds_toArray, List.set_cons_zero, List.set_cons_succ, i64_w, i32_w]
                          rfl
                        refine pure_ (i := 4) (N := some 35) (v := ?_) (a' := ?_) #[false, false, false, true, true, false, false, false, false, false] rfl rfl (any_of HT_.out (by kernel_rfl)) (fun _ _ _ h => h) (Or.inl ⟨by rfl, ?_⟩) ?_ ?_
                        rotate_left
                        · intro w'
                          go_simp
                          with_reducible rfl
                        rotate_left
                        · simp only [Act.put, List.setIfInBounds_toArray, List.set_cons_zero, List.set_cons_succ, i64_w, i32_w]
                          rfl
                        refine pure_ (i := 5) (N := some 36) (v := ?_) (a' := ?_) #[false, false, false, true, true, true, false, false, false, false] rfl rfl (any_of HT_.out (by kernel_rfl)) (fun _ _ _ h => h) (Or.inl ⟨by rfl, ?_⟩) ?_ ?_
                        rotate_left
                        · intro w'
                          go_simp
                          with_reducible rfl
                        rotate_left
                        · simp only [Act.put, List.setIfInBounds_toArray, List.set_cons_zero, List.set_cons_succ, i64_w, i32_w]
                          rfl
                        refine take_ (i := 0) (N := some 31) (v := ?_) (a' := ?_) #[true, false, false, true, true, true, false, false, false, false] rfl rfl (take_ofW HT_.out HW_.out (by kernel_rfl)) (fun _ _ _ h => h) (Or.inl ⟨by rfl, ?_⟩) hHeld ?_ ?_
                        rotate_left
                        · rintro w' ⟨s0, s1, s2, s3, s4, s5, s6, s7, s8, s9, s10, s11, s12, s13, s14, s15, s16, s17⟩
                          go_simp
                          with_reducible rfl
                        rotate_left
                        · simp only [Act.put, List.setIfInBounds_toArray, List.set_cons_zero, List.set_cons_succ, i64_w, i32_w]
                          rfl
                        refine take_ (i := 1) (N := some 32) (v := ?_) (a' := ?_) #[true, true, false, true, true, true, false, false, false, false] rfl rfl (take_ofW HT_.out HW_.out (by kernel_rfl)) (fun _ _ _ h => h) (Or.inl ⟨by rfl, ?_⟩) hHeld ?_ ?_
                        rotate_left
                        · rintro w' ⟨s0, s1, s2, s3, s4, s5, s6, s7, s8, s9, s10, s11, s12, s13, s14, s15, s16, s17⟩
                          go_simp
                          with_reducible rfl
                        rotate_left
                        · simp only [Act.put, List.setIfInBounds_toArray, List.set_cons_zero, List.set_cons_succ, i64_w, i32_w]
                          rfl
                        refine take_ (i := 6) (N := some 37) (v := ?_) (a' := ?_) #[true, true, false, true, true, true, true, false, false, false] rfl rfl (take_ofW HT_.out HW_.out (by kernel_rfl)) (fun _ _ _ h => h) (Or.inl ⟨by rfl, ?_⟩) hHeld ?_ ?_
                        rotate_left
                        · rintro w' ⟨s0, s1, s2, s3, s4, s5, s6, s7, s8, s9, s10, s11, s12, s13, s14, s15, s16, s17⟩
                          go_simp
                          with_reducible rfl
                        rotate_left
                        · simp only [Act.put, List.setIfInBounds_toArray, List.set_cons_zero, List.set_cons_succ, i64_w, i32_w]
                          rfl
                        refine take_ (i := 7) (N := some 38) (v := ?_) (a' := ?_) #[true, true, false, true, true, true, true, true, false, false] rfl rfl (take_ofW HT_.out HW_.out (by kernel_rfl)) (fun _ _ _ h => h) (Or.inl ⟨by rfl, ?_⟩) hHeld ?_ ?_
                        rotate_left
                        · rintro w' ⟨s0, s1, s2, s3, s4, s5, s6, s7, s8, s9, s10, s11, s12, s13, s14, s15, s16, s17⟩
                          go_simp
                          with_reducible rfl
                        rotate_left
                        · simp only [Act.put, List.setIfInBounds_toArray, List.set_cons_zero, List.set_cons_succ, i64_w, i32_w]
                          rfl
                        refine one_ (i := 2) (N := some 33) #[true, true, true, true, true, true, true, true, false, false] rfl rfl (one_of HT_.out (by kernel_rfl)) (by decide) (fun K hK => ?_)
                        refine goes_ Try.func59 (by kernel_rfl) rfl #[.agg #[.int .i64 ((rd_T25 l0 x26_2).f0), .int .i64 ((rd_T25 l0 x26_2).f1), .int .i64 ((rd_T25 l0 x26_2).f2), .int .i64 ((rd_T25 l0 x26_2).f3), .int .i64 ((rd_T25 l0 x26_2).f4), .bool ((rd_T25 l0 x26_2).f5)], .agg #[.int .i64 a1_0, .int .i64 a1_1, .int .i64 a1_2, .int .i64 a1_3, .int .i64 a1_4, .bool a1_5]] (by rfl) rfl rfl (by (try simp only [List.map_toArray, List.map_cons, List.map_nil]); first | done | rfl | (simp only [List.length_drop, List.length_take]; rfl)) ?_
                        with_reducible refine (impl_Shape_distance.calls k2 ((rd_T25 l0 x26_2).f0) ((rd_T25 l0 x26_2).f1) ((rd_T25 l0 x26_2).f2) ((rd_T25 l0 x26_2).f3) ((rd_T25 l0 x26_2).f4) ((rd_T25 l0 x26_2).f5) a1_0 a1_1 a1_2 a1_3 a1_4 a1_5 t594 _ A19.out).mono ?_
                        rintro e w36 ⟨rfl, hb⟩
                        refine ⟨_, rfl, ?_⟩
                        have n0_ := Aside0.mk (blk_below (g := gb586) (o := .cells #[.int .i64 a1_0, .int .i64 a1_1, .int .i64 a1_2, .int .i64 a1_3, .int .i64 a1_4, .bool a1_5] 25 (0, 0)) (by (with_reducible repeat (first | refine blk_drewN ?_ _ | refine blk_drew ?_ | refine blk_alloc ?_ _)); exact BK586.out) hb)
                        have n1_ := Aside0.mk (blk_below (g := gb593) (o := .cells #[.int .i64 ((rd_T25 l0 x26_2).f0), .int .i64 ((rd_T25 l0 x26_2).f1), .int .i64 ((rd_T25 l0 x26_2).f2), .int .i64 ((rd_T25 l0 x26_2).f3), .int .i64 ((rd_T25 l0 x26_2).f4), .bool ((rd_T25 l0 x26_2).f5)] 25 (0, 0)) (by (with_reducible repeat (first | refine blk_drewN ?_ _ | refine blk_drew ?_ | refine blk_alloc ?_ _)); exact BK593.out) hb)
                        have n2_ := Aside0.mk (below_step (by repeat (first | (with_reducible first | exact HB.out | apply below_alloc | apply pw_below_drewN | apply below_drew1 | refine below_set ?_ GE586.out | refine below_set ?_ GE593.out) | exact HB.out)) hb)
                        clear BK586
                        clear BK593
                        clear HB
                        have BK586 := n0_
                        have BK593 := n1_
                        have HB := n2_
                        clear n0_ n1_ n2_
                        (try clear hb)
                        (try clear hb2)
                        (try clear hk)
                        (try clear hi)
                        refine hK.out _ _ ⟨(blk_cell BK593.out 0).trans rfl, (blk_cell BK593.out 1).trans rfl, (blk_cell BK593.out 2).trans rfl, (blk_cell BK593.out 3).trans rfl, (blk_cell BK593.out 4).trans rfl, (blk_cell BK593.out 5).trans rfl, (blk_cell BK586.out 0).trans rfl, (blk_cell BK586.out 1).trans rfl, (blk_cell BK586.out 2).trans rfl, (blk_cell BK586.out 3).trans rfl, (blk_cell BK586.out 4).trans rfl, (blk_cell BK586.out 5).trans rfl, ((HB.out.cell (World.block_lt_of_cell? w _ hw595_0)).trans hw595_0), ((HB.out.cell (World.block_lt_of_cell? w _ hw595_1)).trans hw595_1), ((HB.out.cell (World.block_lt_of_cell? w _ hw595_2)).trans hw595_2), ((HB.out.cell (World.block_lt_of_cell? w _ hw595_3)).trans hw595_3), ((HB.out.cell (World.block_lt_of_cell? w _ hw595_4)).trans hw595_4), ((HB.out.cell (World.block_lt_of_cell? w _ hw595_5)).trans hw595_5)⟩ (fun hHeld => ?_)
                        clear hK K
                        refine norm_ (a' := ?_) ?_ ?_
                        rotate_left
                        · show Act.put _ (some 33) _ = _
                          simp only [Act.put, List.setIfInBounds_toArray, List.set_cons_zero, List.set_cons_succ, i64_w, i32_w]
                          rfl
                        refine one_ (i := 8) (N := some 39) #[true, true, true, true, true, true, true, true, true, false] rfl rfl (one_of HT_.out (by kernel_rfl)) (by decide) (fun K hK => ?_)
                        refine goes_ Try.func59 (by kernel_rfl) rfl #[.agg #[.int .i64 ((rd_T25 l0 x7_2).f0), .int .i64 ((rd_T25 l0 x7_2).f1), .int .i64 ((rd_T25 l0 x7_2).f2), .int .i64 ((rd_T25 l0 x7_2).f3), .int .i64 ((rd_T25 l0 x7_2).f4), .bool ((rd_T25 l0 x7_2).f5)], .agg #[.int .i64 a1_0, .int .i64 a1_1, .int .i64 a1_2, .int .i64 a1_3, .int .i64 a1_4, .bool a1_5]] (by rfl) rfl rfl (by (try simp only [List.map_toArray, List.map_cons, List.map_nil]); first | done | rfl | (simp only [List.length_drop, List.length_take]; rfl)) ?_
                        with_reducible refine (impl_Shape_distance.calls k2 ((rd_T25 l0 x7_2).f0) ((rd_T25 l0 x7_2).f1) ((rd_T25 l0 x7_2).f2) ((rd_T25 l0 x7_2).f3) ((rd_T25 l0 x7_2).f4) ((rd_T25 l0 x7_2).f5) a1_0 a1_1 a1_2 a1_3 a1_4 a1_5 t596 _ A22.out).mono ?_
                        rintro e w37 ⟨rfl, hb⟩
                        refine ⟨_, rfl, ?_⟩
                        have n0_ := Aside0.mk (blk_below (g := gb586) (o := .cells #[.int .i64 a1_0, .int .i64 a1_1, .int .i64 a1_2, .int .i64 a1_3, .int .i64 a1_4, .bool a1_5] 25 (0, 0)) (by (with_reducible repeat (first | refine blk_drewN ?_ _ | refine blk_drew ?_ | refine blk_alloc ?_ _)); exact BK586.out) hb)
                        have n1_ := Aside0.mk (blk_below (g := gb593) (o := .cells #[.int .i64 ((rd_T25 l0 x26_2).f0), .int .i64 ((rd_T25 l0 x26_2).f1), .int .i64 ((rd_T25 l0 x26_2).f2), .int .i64 ((rd_T25 l0 x26_2).f3), .int .i64 ((rd_T25 l0 x26_2).f4), .bool ((rd_T25 l0 x26_2).f5)] 25 (0, 0)) (by (with_reducible repeat (first | refine blk_drewN ?_ _ | refine blk_drew ?_ | refine blk_alloc ?_ _)); exact BK593.out) hb)
                        have n2_ := Aside0.mk (below_step (by repeat (first | (with_reducible first | exact HB.out | apply below_alloc | apply pw_below_drewN | apply below_drew1 | refine below_set ?_ GE586.out | refine below_set ?_ GE593.out) | exact HB.out)) hb)
                        clear BK586
                        clear BK593
                        clear HB
                        have BK586 := n0_
                        have BK593 := n1_
                        have HB := n2_
                        clear n0_ n1_ n2_
                        (try clear hb)
                        (try clear hb2)
                        (try clear hk)
                        (try clear hi)
                        refine hK.out _ _ ⟨(blk_cell BK593.out 0).trans rfl, (blk_cell BK593.out 1).trans rfl, (blk_cell BK593.out 2).trans rfl, (blk_cell BK593.out 3).trans rfl, (blk_cell BK593.out 4).trans rfl, (blk_cell BK593.out 5).trans rfl, (blk_cell BK586.out 0).trans rfl, (blk_cell BK586.out 1).trans rfl, (blk_cell BK586.out 2).trans rfl, (blk_cell BK586.out 3).trans rfl, (blk_cell BK586.out 4).trans rfl, (blk_cell BK586.out 5).trans rfl, ((HB.out.cell (World.block_lt_of_cell? w _ hw595_0)).trans hw595_0), ((HB.out.cell (World.block_lt_of_cell? w _ hw595_1)).trans hw595_1), ((HB.out.cell (World.block_lt_of_cell? w _ hw595_2)).trans hw595_2), ((HB.out.cell (World.block_lt_of_cell? w _ hw595_3)).trans hw595_3), ((HB.out.cell (World.block_lt_of_cell? w _ hw595_4)).trans hw595_4), ((HB.out.cell (World.block_lt_of_cell? w _ hw595_5)).trans hw595_5)⟩ (fun hHeld => ?_)
                        clear hK K
                        refine norm_ (a' := ?_) ?_ ?_
                        rotate_left
                        · show Act.put _ (some 39) _ = _
                          simp only [Act.put, List.setIfInBounds_toArray, List.set_cons_zero, List.set_cons_succ, i64_w, i32_w]
                          rfl
                        refine pure_ (i := 9) (N := some 40) (v := ?_) (a' := ?_) #[true, true, true, true, true, true, true, true, true, true] rfl rfl (any_of HT_.out (by kernel_rfl)) (fun _ _ _ h => h) (Or.inl ⟨by rfl, ?_⟩) ?_ ?_
                        rotate_left
                        · intro w'
                          go_simp
                          with_reducible rfl
                        rotate_left
                        · simp only [Act.put, List.setIfInBounds_toArray, List.set_cons_zero, List.set_cons_succ, i64_w, i32_w]
                          rfl
                        refine done_ (done_of HT_.out (by kernel_rfl)) ?_
                        try go_wp2
                        go_roundg k2
                        case measure => have := HJ2.out; have := HK2.out; omega
                        case rel => exact ⟨(x7_2), (wrap64 (x26_2 + 1)), (by first | rfl | (simp; done) | (simp [*]; done)), (by first | rfl | (simp; done) | (simp [*]; done)), H', ⟨by have := HJ2.out; have := HK2.out; omega⟩, ⟨by (with_reducible repeat (first | refine blk_drewN ?_ _ | refine blk_drew ?_ | refine blk_alloc ?_ _)); exact BK586.out⟩, ⟨by repeat (first | (with_reducible first | exact HB.out | apply below_alloc | apply pw_below_drewN | apply below_drew1 | refine below_set ?_ GE586.out | refine below_set ?_ GE593.out) | exact HB.out)⟩⟩
                    · rw [if_neg c21] at H
                      exact absurd H (by simp)
                  · rw [if_neg c20] at H
                    exact absurd H (by simp)
                · rw [if_neg c18] at H
                  exact absurd H (by simp)
              · rw [if_neg c17] at H
                exact absurd H (by simp)
            · rw [if_neg c16] at H
              have c16b0 : decide (x26_2 < (l0.length : Int)) = false := decide_eq_false c16
              clear c16
              by_cases c38 : 0 ≤ x7_2
              · rw [if_pos c38] at H
                have c38b0 : decide (0 ≤ x7_2) = true := decide_eq_true c38
                clear c38
                by_cases c39 : x7_2 < (l0.length : Int)
                · rw [if_pos c39] at H
                  have c39b0 : decide (x7_2 < (l0.length : Int)) = true := decide_eq_true c39
                  clear c39
                  replace H := Option.bind_eq_some_iff.mp H
                  obtain ⟨t591, A400, H⟩ := H
                  replace H : (some (x7_2, t591, true)) = some (r1, r2, r3) := H
                  have A40 := Aside0.mk A400
                  clear A400
                  simp only [Option.some.injEq, Prod.mk.injEq] at H
                  obtain ⟨rfl, rfl, rfl⟩ := H
                  try go_wp2
                  have n0_ := Aside0.mk (blk_drew BK586.out)
                  have n1_ := Aside0.mk (below_drew1 HB.out)
                  clear BK586
                  clear HB
                  have BK586 := n0_
                  have HB := n1_
                  clear n0_ n1_
                  have p590 : 0 ≤ (x7_2 : Int) := of_decide_eq_true (by first | (with_reducible assumption) | assumption)
                  have q590 : x7_2 < (l0.length : Int) := of_decide_eq_true (by first | (with_reducible assumption) | assumption)
                  obtain ⟨ad590, e590, hx590_0, hx590_1, hx590_2, hx590_3, hx590_4, hx590_5⟩ := at_T25 HR0.out x7_2 p590 q590
                  have hw590_5 := hx590_5
                  have hw590_4 := hx590_4
                  have hw590_3 := hx590_3
                  have hw590_2 := hx590_2
                  have hw590_1 := hx590_1
                  have hw590_0 := hx590_0
                  cases e590
                  replace hx590_0 := (HB.out.cell (World.block_lt_of_cell? w _ hx590_0)).trans hx590_0
                  replace hx590_1 := (HB.out.cell (World.block_lt_of_cell? w _ hx590_1)).trans hx590_1
                  replace hx590_2 := (HB.out.cell (World.block_lt_of_cell? w _ hx590_2)).trans hx590_2
                  replace hx590_3 := (HB.out.cell (World.block_lt_of_cell? w _ hx590_3)).trans hx590_3
                  replace hx590_4 := (HB.out.cell (World.block_lt_of_cell? w _ hx590_4)).trans hx590_4
                  replace hx590_5 := (HB.out.cell (World.block_lt_of_cell? w _ hx590_5)).trans hx590_5
                  replace p590 := eq_true p590
                  replace q590 := eq_true q590
                  refine start_ (n := 10) (S := fun w' => w'.cell? ⟨gb586, 0, none⟩ = some (.int .i64 a1_0) ∧ w'.cell? ⟨gb586, 1, none⟩ = some (.int .i64 a1_1) ∧ w'.cell? ⟨gb586, 2, none⟩ = some (.int .i64 a1_2) ∧ w'.cell? ⟨gb586, 3, none⟩ = some (.int .i64 a1_3) ∧ w'.cell? ⟨gb586, 4, none⟩ = some (.int .i64 a1_4) ∧ w'.cell? ⟨gb586, 5, none⟩ = some (.bool a1_5) ∧ w'.cell? (ad590.add ((x7_2).toNat * 6)) = some (.int .i64 ((rd_T25 l0 x7_2).f0)) ∧ w'.cell? ⟨(ad590.add ((x7_2).toNat * 6)).block, (ad590.add ((x7_2).toNat * 6)).off + 1, none⟩ = some (.int .i64 ((rd_T25 l0 x7_2).f1)) ∧ w'.cell? ⟨(ad590.add ((x7_2).toNat * 6)).block, (ad590.add ((x7_2).toNat * 6)).off + 2, none⟩ = some (.int .i64 ((rd_T25 l0 x7_2).f2)) ∧ w'.cell? ⟨(ad590.add ((x7_2).toNat * 6)).block, (ad590.add ((x7_2).toNat * 6)).off + 3, none⟩ = some (.int .i64 ((rd_T25 l0 x7_2).f3)) ∧ w'.cell? ⟨(ad590.add ((x7_2).toNat * 6)).block, (ad590.add ((x7_2).toNat * 6)).off + 4, none⟩ = some (.int .i64 ((rd_T25 l0 x7_2).f4)) ∧ w'.cell? ⟨(ad590.add ((x7_2).toNat * 6)).block, (ad590.add ((x7_2).toNat * 6)).off + 5, none⟩ = some (.bool ((rd_T25 l0 x7_2).f5))) (ds := []) #[false, false, false, false, false, false, false, false, false, false] (by kernel_rfl) rfl rfl ⟨(blk_cell BK586.out 0).trans rfl, (blk_cell BK586.out 1).trans rfl, (blk_cell BK586.out 2).trans rfl, (blk_cell BK586.out 3).trans rfl, (blk_cell BK586.out 4).trans rfl, (blk_cell BK586.out 5).trans rfl, ((HB.out.cell (World.block_lt_of_cell? w _ hw590_0)).trans hw590_0), ((HB.out.cell (World.block_lt_of_cell? w _ hw590_1)).trans hw590_1), ((HB.out.cell (World.block_lt_of_cell? w _ hw590_2)).trans hw590_2), ((HB.out.cell (World.block_lt_of_cell? w _ hw590_3)).trans hw590_3), ((HB.out.cell (World.block_lt_of_cell? w _ hw590_4)).trans hw590_4), ((HB.out.cell (World.block_lt_of_cell? w _ hw590_5)).trans hw590_5)⟩ (fun hHeld => ?_); refine with_tabW impl_NearestShape.tab10 impl_NearestShape.bits10 (fun HT_ HW_ => ?_)
                  generalize wr.drew = w41 at BK586 HB hx590_0 hx590_1 hx590_2 hx590_3 hx590_4 hx590_5 hHeld ⊢
                  refine pure_ (i := 0) (N := some 43) (v := ?_) (a' := ?_) #[true, false, false, false, false, false, false, false, false, false] rfl rfl (any_of HT_.out (by kernel_rfl)) (fun _ _ _ h => h) (Or.inl ⟨by rfl, ?_⟩) ?_ ?_
                  rotate_left
                  · intro w'
                    go_simp
                    with_reducible rfl
                  rotate_left
                  · simp only [Act.put, List.setIfInBounds_toArray, List.set_cons_zero, List.set_cons_succ, i64_w, i32_w]
                    rfl
                  refine pure_ (i := 1) (N := some 44) (v := ?_) (a' := ?_) #[true, true, false, false, false, false, false, false, false, false] rfl rfl (any_of HT_.out (by kernel_rfl)) (fun _ _ _ h => h) (Or.inl ⟨by rfl, ?_⟩) ?_ ?_
                  rotate_left
                  · intro w'
                    go_simp
                    with_reducible rfl
                  rotate_left
                  · simp only [Act.put, List.setIfInBounds_toArray, List.set_cons_zero, List.set_cons_succ, i64_w, i32_w]
                    rfl
                  refine pure_ (i := 2) (N := some 45) (v := ?_) (a' := ?_) #[true, true, true, false, false, false, false, false, false, false] rfl rfl (any_of HT_.out (by kernel_rfl)) (fun _ _ _ h => h) (Or.inl ⟨by rfl, ?_⟩) ?_ ?_
                  rotate_left
                  · intro w'
                    go_simp
                    with_reducible rfl
                  rotate_left
                  · simp only [Act.put, List.setIfInBounds_toArray, List.set_cons_zero, List.set_cons_succ, i64_w, i32_w]
                    rfl
                  refine pure_ (i := 3) (N := some 46) (v := ?_) (a' := ?_) #[true, true, true, true, false, false, false, false, false, false] rfl rfl (any_of HT_.out (by kernel_rfl)) (fun _ _ _ h => h) (Or.inl ⟨by rfl, ?_⟩) ?_ ?_
                  rotate_left
                  · intro w'
                    go_simp
                    with_reducible rfl
                  rotate_left
                  · simp only [Act.put, List.setIfInBounds_toArray, List.set_cons_zero, List.set_cons_succ, i64_w, i32_w]
                    rfl
                  refine take_ (i := 4) (N := some 47) (v := ?_) (a' := ?_) #[true, true, true, true, true, false, false, false, false, false] rfl rfl (take_ofW HT_.out HW_.out (by kernel_rfl)) (fun _ _ _ h => h) (Or.inl ⟨by rfl, ?_⟩) hHeld ?_ ?_
                  rotate_left
                  · rintro w' ⟨s0, s1, s2, s3, s4, s5, s6, s7, s8, s9, s10, s11⟩
                    go_simp
                    with_reducible rfl
                  rotate_left
                  · simp only [Act.put, List.setIfInBounds_toArray, List.set_cons_zero, List.set_cons_succ, i64_w, i32_w]
                    rfl
                  refine take_ (i := 5) (N := some 48) (v := ?_) (a' := ?_) #[true, true, true, true, true, true, false, false, false, false] rfl rfl (take_ofW HT_.out HW_.out (by kernel_rfl)) (fun _ _ _ h => h) (Or.inl ⟨by rfl, ?_⟩) hHeld ?_ ?_
                  rotate_left
                  · rintro w' ⟨s0, s1, s2, s3, s4, s5, s6, s7, s8, s9, s10, s11⟩
                    go_simp
                    with_reducible rfl
                  rotate_left
                  · simp only [Act.put, List.setIfInBounds_toArray, List.set_cons_zero, List.set_cons_succ, i64_w, i32_w]
                    rfl
                  refine one_ (i := 6) (N := some 49) #[true, true, true, true, true, true, true, false, false, false] rfl rfl (one_of HT_.out (by kernel_rfl)) (by decide) (fun K hK => ?_)
                  refine goes_ Try.func59 (by kernel_rfl) rfl #[.agg #[.int .i64 ((rd_T25 l0 x7_2).f0), .int .i64 ((rd_T25 l0 x7_2).f1), .int .i64 ((rd_T25 l0 x7_2).f2), .int .i64 ((rd_T25 l0 x7_2).f3), .int .i64 ((rd_T25 l0 x7_2).f4), .bool ((rd_T25 l0 x7_2).f5)], .agg #[.int .i64 a1_0, .int .i64 a1_1, .int .i64 a1_2, .int .i64 a1_3, .int .i64 a1_4, .bool a1_5]] (by rfl) rfl rfl (by (try simp only [List.map_toArray, List.map_cons, List.map_nil]); first | done | rfl | (simp only [List.length_drop, List.length_take]; rfl)) ?_
                  with_reducible refine (impl_Shape_distance.calls k2 ((rd_T25 l0 x7_2).f0) ((rd_T25 l0 x7_2).f1) ((rd_T25 l0 x7_2).f2) ((rd_T25 l0 x7_2).f3) ((rd_T25 l0 x7_2).f4) ((rd_T25 l0 x7_2).f5) a1_0 a1_1 a1_2 a1_3 a1_4 a1_5 t591 _ A40.out).mono ?_
                  rintro e w42 ⟨rfl, hb⟩
                  refine ⟨_, rfl, ?_⟩
                  have n0_ := Aside0.mk (blk_below (g := gb586) (o := .cells #[.int .i64 a1_0, .int .i64 a1_1, .int .i64 a1_2, .int .i64 a1_3, .int .i64 a1_4, .bool a1_5] 25 (0, 0)) (by (with_reducible repeat (first | refine blk_drewN ?_ _ | refine blk_drew ?_ | refine blk_alloc ?_ _)); exact BK586.out) hb)
                  have n1_ := Aside0.mk (below_step (by repeat (first | (with_reducible first | exact HB.out | apply below_alloc | apply pw_below_drewN | apply below_drew1 | refine below_set ?_ GE586.out) | exact HB.out)) hb)
                  clear BK586
                  clear HB
                  have BK586 := n0_
                  have HB := n1_
                  clear n0_ n1_
                  (try clear hb)
                  (try clear hb2)
                  (try clear hk)
                  (try clear hi)
                  refine hK.out _ _ ⟨(blk_cell BK586.out 0).trans rfl, (blk_cell BK586.out 1).trans rfl, (blk_cell BK586.out 2).trans rfl, (blk_cell BK586.out 3).trans rfl, (blk_cell BK586.out 4).trans rfl, (blk_cell BK586.out 5).trans rfl, ((HB.out.cell (World.block_lt_of_cell? w _ hw590_0)).trans hw590_0), ((HB.out.cell (World.block_lt_of_cell? w _ hw590_1)).trans hw590_1), ((HB.out.cell (World.block_lt_of_cell? w _ hw590_2)).trans hw590_2), ((HB.out.cell (World.block_lt_of_cell? w _ hw590_3)).trans hw590_3), ((HB.out.cell (World.block_lt_of_cell? w _ hw590_4)).trans hw590_4), ((HB.out.cell (World.block_lt_of_cell? w _ hw590_5)).trans hw590_5)⟩ (fun hHeld => ?_)
                  clear hK K
                  refine norm_ (a' := ?_) ?_ ?_
                  rotate_left
                  · show Act.put _ (some 49) _ = _
                    simp only [Act.put, List.setIfInBounds_toArray, List.set_cons_zero, List.set_cons_succ, i64_w, i32_w]
                    rfl
                  refine pure_ (i := 7) (N := some 4) (v := ?_) (a' := ?_) #[true, true, true, true, true, true, true, true, false, false] rfl rfl (any_of HT_.out (by kernel_rfl)) (fun _ _ _ h => h) (Or.inl ⟨by rfl, ?_⟩) ?_ ?_
                  rotate_left
                  · intro w'
                    go_simp
                    with_reducible rfl
                  rotate_left
                  · simp only [Act.put, List.setIfInBounds_toArray, List.set_cons_zero, List.set_cons_succ, i64_w, i32_w]
                    rfl
                  refine pure_ (i := 8) (N := some 5) (v := ?_) (a' := ?_) #[true, true, true, true, true, true, true, true, true, false] rfl rfl (any_of HT_.out (by kernel_rfl)) (fun _ _ _ h => h) (Or.inl ⟨by rfl, ?_⟩) ?_ ?_
                  rotate_left
                  · intro w'
                    go_simp
                    with_reducible rfl
                  rotate_left
                  · simp only [Act.put, List.setIfInBounds_toArray, List.set_cons_zero, List.set_cons_succ, i64_w, i32_w]
                    rfl
                  refine pure_ (i := 9) (N := some 6) (v := ?_) (a' := ?_) #[true, true, true, true, true, true, true, true, true, true] rfl rfl (any_of HT_.out (by kernel_rfl)) (fun _ _ _ h => h) (Or.inl ⟨by rfl, ?_⟩) ?_ ?_
                  rotate_left
                  · intro w'
                    go_simp
                    with_reducible rfl
                  rotate_left
                  · simp only [Act.put, List.setIfInBounds_toArray, List.set_cons_zero, List.set_cons_succ, i64_w, i32_w]
                    rfl
                  refine done_ (done_of HT_.out (by kernel_rfl)) ?_
                  try go_wp2
                  go_ret3
                  exact ⟨by first | rfl | (simp [errW_none, errW_some] <;> rfl) | (simp [*, errW_none, errW_some] <;> rfl), by repeat (first | (with_reducible first | exact HB.out | apply below_alloc | apply pw_below_drewN | apply below_drew1 | refine below_set ?_ GE586.out) | exact HB.out)⟩
                · rw [if_neg c39] at H
                  exact absurd H (by simp)
              · rw [if_neg c38] at H
                exact absurd H (by simp)

end Go.Proofs.Ytaecjbhenknfkaa.FA
