-- laid by pr.py (wip/tools) over the kit's printer; Lean checks it
import Derived.Test.YtaecjbhenknfkaaFDx0
import Derived.Test.YtaecjbhenknfkaaFDx3
import Derived.Test.YtaecjbhenknfkaaFDx4
import Derived.Test.YtaecjbhenknfkaaFDx19
namespace Go.Proofs.Ytaecjbhenknfkaa.FD
open Go.RowKit Go.Proofs.YtaecjbhenknfkaaW.PrintWords Go.Proofs.YtaecjbhenknfkaaW.PrintLast Go.Proofs.YtaecjbhenknfkaaW.PrintMore
attribute [local go_sem] max2_int min2_int max_two min_two max_three min_three max_four min_four   -- for this text's walks alone
set_option linter.unusedVariables false
set_option linter.unusedSimpArgs false

/-! ### spec_NearestShape: function 31 -/
mutual
def spec_NearestShape.j0 : Nat → List (S25) → Bool → Int → Int → Int → Int → Int → Bool → Option (Int × Int × Bool)
  | 0, _, _, _, _, _, _, _, _ => none
  | k + 1, x0, x20, x322000, x322001, x322002, x322003, x322004, x322005 => if x20 = true then (some (0, 0, false)) else (spec_NearestShape.l0 k (-1) 0 x0 (x0.length : Int) 0 x322000 x322001 x322002 x322003 x322004 x322005)
def spec_NearestShape.l0 : Nat → Int → Int → List (S25) → Int → Int → Int → Int → Int → Int → Int → Bool → Option (Int × Int × Bool)
  | 0, _, _, _, _, _, _, _, _, _, _, _ => none
  | k + 1, x7, x8, x21, x22, x23, x322000, x322001, x322002, x322003, x322004, x322005 => if x23 < x22 then (if 0 ≤ x23 then (if x23 < (x21.length : Int) then ((spec_shGood.f k ((rd_T25 x21 x23).f0) ((rd_T25 x21 x23).f1) ((rd_T25 x21 x23).f2) ((rd_T25 x21 x23).f3) ((rd_T25 x21 x23).f4) ((rd_T25 x21 x23).f5)).bind fun t326 => (if t326 = true then ((spec_shFar.f k ((rd_T25 x21 x23).f0) ((rd_T25 x21 x23).f1) ((rd_T25 x21 x23).f2) ((rd_T25 x21 x23).f3) ((rd_T25 x21 x23).f4) ((rd_T25 x21 x23).f5) x322000 x322001 x322002 x322003 x322004 x322005).bind fun t327 => (if x7 < 0 then (spec_NearestShape.l0 k x23 t327 x21 x22 (wrap64 (x23 + 1)) x322000 x322001 x322002 x322003 x322004 x322005) else (if t327 < x8 then (spec_NearestShape.l0 k x23 t327 x21 x22 (wrap64 (x23 + 1)) x322000 x322001 x322002 x322003 x322004 x322005) else (spec_NearestShape.l0 k x7 x8 x21 x22 (wrap64 (x23 + 1)) x322000 x322001 x322002 x322003 x322004 x322005)))) else (some (0, 0, false)))) else (none)) else (none)) else (some (x7, x8, true))
end
def spec_NearestShape.f (k : Nat) (l0 : List (S25)) (a1_0 : Int) (a1_1 : Int) (a1_2 : Int) (a1_3 : Int) (a1_4 : Int) (a1_5 : Bool) : Option (Int × Int × Bool) := (spec_l1In.f (l0.length : Int) 1 20).bind fun t322 => (if t322 = true then ((spec_shGood.f k a1_0 a1_1 a1_2 a1_3 a1_4 a1_5).bind fun t323 => (spec_NearestShape.j0 k l0 (!t323) a1_0 a1_1 a1_2 a1_3 a1_4 a1_5)) else (spec_NearestShape.j0 k l0 true a1_0 a1_1 a1_2 a1_3 a1_4 a1_5))
theorem spec_NearestShape.mono_l : ∀ k, (∀ y0 y1 y2 y3 y4 y5 y6 y7, LeO (spec_NearestShape.j0 k y0 y1 y2 y3 y4 y5 y6 y7) (spec_NearestShape.j0 (k + 1) y0 y1 y2 y3 y4 y5 y6 y7)) ∧ (∀ y0 y1 y2 y3 y4 y5 y6 y7 y8 y9 y10, LeO (spec_NearestShape.l0 k y0 y1 y2 y3 y4 y5 y6 y7 y8 y9 y10) (spec_NearestShape.l0 (k + 1) y0 y1 y2 y3 y4 y5 y6 y7 y8 y9 y10))
  | 0 => ⟨fun _ _ _ _ _ _ _ _ r h => by simp [spec_NearestShape.j0] at h, fun _ _ _ _ _ _ _ _ _ _ _ r h => by simp [spec_NearestShape.l0] at h⟩
  | k + 1 => by
    obtain ⟨ih0, ih1⟩ := spec_NearestShape.mono_l k
    refine ⟨?_, ?_⟩
    · intro y0 y1 y2 y3 y4 y5 y6 y7
      unfold spec_NearestShape.j0
      repeat' first
      | (with_reducible exact ih0 _ _ _ _ _ _ _ _)
      | (with_reducible exact ih1 _ _ _ _ _ _ _ _ _ _ _)
      | (with_reducible exact spec_shFar.mono _ _ _ _ _ _ _ _ _ _ _ _ _)
      | (with_reducible exact spec_shGood.mono _ _ _ _ _ _ _)
      | (with_reducible exact LeO.refl _)
      | (with_reducible exact LeO.none _)
      | (with_reducible refine LeO.ite ?_ ?_)
      | (with_reducible refine LeO.bind ?_ (fun _ => ?_))
      | exact ih0 _ _ _ _ _ _ _ _
      | exact ih1 _ _ _ _ _ _ _ _ _ _ _
      | exact spec_shFar.mono _ _ _ _ _ _ _ _ _ _ _ _ _
      | exact spec_shGood.mono _ _ _ _ _ _ _
      | exact LeO.none _
      | refine LeO.ite ?_ ?_
      | refine LeO.bind ?_ (fun _ => ?_)
    · intro y0 y1 y2 y3 y4 y5 y6 y7 y8 y9 y10
      unfold spec_NearestShape.l0
      repeat' first
      | (with_reducible exact ih0 _ _ _ _ _ _ _ _)
      | (with_reducible exact ih1 _ _ _ _ _ _ _ _ _ _ _)
      | (with_reducible exact spec_shFar.mono _ _ _ _ _ _ _ _ _ _ _ _ _)
      | (with_reducible exact spec_shGood.mono _ _ _ _ _ _ _)
      | (with_reducible exact LeO.refl _)
      | (with_reducible exact LeO.none _)
      | (with_reducible refine LeO.ite ?_ ?_)
      | (with_reducible refine LeO.bind ?_ (fun _ => ?_))
      | exact ih0 _ _ _ _ _ _ _ _
      | exact ih1 _ _ _ _ _ _ _ _ _ _ _
      | exact spec_shFar.mono _ _ _ _ _ _ _ _ _ _ _ _ _
      | exact spec_shGood.mono _ _ _ _ _ _ _
      | exact LeO.none _
      | refine LeO.ite ?_ ?_
      | refine LeO.bind ?_ (fun _ => ?_)
theorem spec_NearestShape.mono : ∀ a0 a1 a2 a3 a4 a5 a6 k, LeO (spec_NearestShape.f k a0 a1 a2 a3 a4 a5 a6) (spec_NearestShape.f (k + 1) a0 a1 a2 a3 a4 a5 a6) := by
  intro a0 a1 a2 a3 a4 a5 a6 k
  obtain ⟨ih0, ih1⟩ := spec_NearestShape.mono_l k
  unfold spec_NearestShape.f
  repeat' first
    | (with_reducible exact ih0 _ _ _ _ _ _ _ _)
    | (with_reducible exact ih1 _ _ _ _ _ _ _ _ _ _ _)
    | (with_reducible exact spec_shFar.mono _ _ _ _ _ _ _ _ _ _ _ _ _)
    | (with_reducible exact spec_shGood.mono _ _ _ _ _ _ _)
    | (with_reducible exact LeO.refl _)
    | (with_reducible exact LeO.none _)
    | (with_reducible refine LeO.ite ?_ ?_)
    | (with_reducible refine LeO.bind ?_ (fun _ => ?_))
    | exact ih0 _ _ _ _ _ _ _ _
    | exact ih1 _ _ _ _ _ _ _ _ _ _ _
    | exact spec_shFar.mono _ _ _ _ _ _ _ _ _ _ _ _ _
    | exact spec_shGood.mono _ _ _ _ _ _ _
    | exact LeO.none _
    | refine LeO.ite ?_ ?_
    | refine LeO.bind ?_ (fun _ => ?_)
set_option maxHeartbeats 8000000 in
set_option maxRecDepth 100000 in
theorem spec_NearestShape.calls (k : Nat) (A0 : Option Addr) (c0 : Nat) (l0 : List (S25)) (a1_0 : Int) (a1_1 : Int) (a1_2 : Int) (a1_3 : Int) (a1_4 : Int) (a1_5 : Bool) (r1 : Int) (r2 : Int) (r3 : Bool) (w : World) (hr0 : Kd.C k25 w A0 l0.length l0) (hc0 : l0.length ≤ c0) (h : spec_NearestShape.f k l0 a1_0 a1_1 a1_2 a1_3 a1_4 a1_5 = some (r1, r2, r3)) :
    Calls Try.prog 31 #[.slice A0 l0.length c0, .agg #[.int .i64 a1_0, .int .i64 a1_1, .int .i64 a1_2, .int .i64 a1_3, .int .i64 a1_4, .bool a1_5]] w fun e w' => e = .returned (.tuple #[.int .i64 r1, .int .i64 r2, .bool r3]) ∧ Below w.heap.size w w' := by
  have hu25 := Try.underlying25
  have HR0 := Aside0.mk hr0
  have HC0 := Aside0.mk hc0
  clear hr0 hc0
  have HB := Aside0.mk (Below.refl w.heap.size w)
  have H : ((spec_l1In.f (l0.length : Int) 1 20).bind fun t322 => (if t322 = true then ((spec_shGood.f k a1_0 a1_1 a1_2 a1_3 a1_4 a1_5).bind fun t323 => (spec_NearestShape.j0 k l0 (!t323) a1_0 a1_1 a1_2 a1_3 a1_4 a1_5)) else (spec_NearestShape.j0 k l0 true a1_0 a1_1 a1_2 a1_3 a1_4 a1_5))) = some (r1, r2, r3) := h
  clear h
  have HC3 := Aside0.mk H
  clear H
  go_enter Try.func31, Try.ntmps31
  go_upto_region 1 with (first | ((with_reducible refine gate_dst (N := 3) rfl ?_); refine box_event ?hg (N := 3) ?hd (cs := #[.int .i64 a1_0, .int .i64 a1_1, .int .i64 a1_2, .int .i64 a1_3, .int .i64 a1_4, .bool a1_5]) (t := 25) ?hr ?_; (case hd => rfl); (case hg => rfl); (case hr => first | (go_simp; done) | (go_simp; rfl)); intro gb321 hg w4 hbox hb; have n0_ := Aside0.mk (below_step (by repeat (first | (with_reducible first | exact HB.out | apply below_alloc | apply pw_below_drewN | apply below_drew1) | exact HB.out)) hb); have n1_ := Aside0.mk (hbox); have n2_ := Aside0.mk ((by rw [hg]; exact (below_size (by repeat (first | (with_reducible first | exact HB.out | apply below_alloc | apply pw_below_drewN | apply below_drew1) | exact HB.out))) : w.heap.size ≤ gb321)); have n3_ := Aside0.mk ((by rw [hg]; exact (below_size (by repeat (first | (with_reducible first | exact HB.out | apply below_alloc | apply pw_below_drewN | apply below_drew1) | exact HB.out))) : w.heap.size ≤ gb321)); clear HB; have HB := n0_; have BK321 := n1_; have GW321 := n2_; have GE321 := n3_; clear n0_ n1_ n2_ n3_; clear hb hbox hg))
  (try simp only [Act.put, List.setIfInBounds_toArray, List.set_cons_zero, List.set_cons_succ])
  go_cut [20] (fun v20 wc => ∃ (kq : Nat) (x20_2 : Bool), v20 = .bool x20_2 ∧ Aside0 (spec_NearestShape.j0 kq l0 x20_2 a1_0 a1_1 a1_2 a1_3 a1_4 a1_5 = some (r1, r2, r3)) ∧ Aside0 (kq ≤ k) ∧ Aside0 (wc.heap[gb321]? = some (.cells #[.int .i64 a1_0, .int .i64 a1_1, .int .i64 a1_2, .int .i64 a1_3, .int .i64 a1_4, .bool a1_5] 25 (0, 0))) ∧ Aside0 (Below w.heap.size w wc))
  case first =>
   have H := HC3.out
   clear HC3
   replace H := Option.bind_eq_some_iff.mp H
   obtain ⟨t322, A50, H⟩ := H
   replace H : (if t322 = true then ((spec_shGood.f k a1_0 a1_1 a1_2 a1_3 a1_4 a1_5).bind fun t323 => (spec_NearestShape.j0 k l0 (!t323) a1_0 a1_1 a1_2 a1_3 a1_4 a1_5)) else (spec_NearestShape.j0 k l0 true a1_0 a1_1 a1_2 a1_3 a1_4 a1_5)) = some (r1, r2, r3) := H
   have A5 := Aside0.mk A50
   clear A50
   refine dite (t322 = true) (fun c6 => ?qp39) (fun c6 => ?qn39)
   case' qp39 =>
    subst c6
    have H1 : ((spec_shGood.f k a1_0 a1_1 a1_2 a1_3 a1_4 a1_5).bind fun t323 => (spec_NearestShape.j0 k l0 (!t323) a1_0 a1_1 a1_2 a1_3 a1_4 a1_5)) = some (r1, r2, r3) := by rw [if_pos rfl] at H; exact H
    clear H
    have H := H1
    clear H1
    replace H := Option.bind_eq_some_iff.mp H
    obtain ⟨t323, A70, H⟩ := H
    replace H : (spec_NearestShape.j0 k l0 (!t323) a1_0 a1_1 a1_2 a1_3 a1_4 a1_5) = some (r1, r2, r3) := H
    have A7 := Aside0.mk A70
    clear A70
   case' qn39 =>
    replace c6 := Bool.eq_false_iff.mpr c6
    subst c6
    have H1 : (spec_NearestShape.j0 k l0 true a1_0 a1_1 a1_2 a1_3 a1_4 a1_5) = some (r1, r2, r3) := by rw [if_neg (show ¬ (false = true) by decide)] at H; exact H
    clear H
    have H := H1
    clear H1
   all_goals
    have H' := Aside0.mk H
    clear H
    go_wp2_with (first | ((with_reducible refine gate_callee (f := 62) rfl ?_); refine goesL_ (some 14) rfl rfl Try.func62 (by kernel_rfl) rfl #[.int .i64 (l0.length : Int), .int .i64 1, .int .i64 20] rfl (by (try simp only [List.map_toArray, List.map_cons, List.map_nil]); first | done | rfl | (simp only [List.length_drop, List.length_take]; rfl)) ?_; (with_reducible refine (spec_l1In.calls (l0.length : Int) 1 20 _ _ A5.out).mono ?_); rintro e w' ⟨rfl, ⟨nd, rfl⟩⟩; refine ⟨_, rfl, ?_⟩; have hczx0_0 : w4.cell? ⟨gb321, 0, none⟩ = some (.int .i64 a1_0) := (blk_cell BK321.out 0).trans rfl; have hczx0_1 : w4.cell? ⟨gb321, 1, none⟩ = some (.int .i64 a1_1) := (blk_cell BK321.out 1).trans rfl; have hczx0_2 : w4.cell? ⟨gb321, 2, none⟩ = some (.int .i64 a1_2) := (blk_cell BK321.out 2).trans rfl; have hczx0_3 : w4.cell? ⟨gb321, 3, none⟩ = some (.int .i64 a1_3) := (blk_cell BK321.out 3).trans rfl; have hczx0_4 : w4.cell? ⟨gb321, 4, none⟩ = some (.int .i64 a1_4) := (blk_cell BK321.out 4).trans rfl; have hczx0_5 : w4.cell? ⟨gb321, 5, none⟩ = some (.bool a1_5) := (blk_cell BK321.out 5).trans rfl; have hfzx0_0 := blk_frozen BK321.out 0; have hfzx0_1 := blk_frozen BK321.out 1; have hfzx0_2 := blk_frozen BK321.out 2; have hfzx0_3 := blk_frozen BK321.out 3; have hfzx0_4 := blk_frozen BK321.out 4; have hfzx0_5 := blk_frozen BK321.out 5) | (go_at_call 47; (with_reducible refine (spec_shGood.calls k a1_0 a1_1 a1_2 a1_3 a1_4 a1_5 _ _ A7.out).mono ?_); rintro e wx0 ⟨rfl, hb⟩; have n0_ := Aside0.mk (blk_below (g := gb321) (o := .cells #[.int .i64 a1_0, .int .i64 a1_1, .int .i64 a1_2, .int .i64 a1_3, .int .i64 a1_4, .bool a1_5] 25 (0, 0)) (by (with_reducible repeat (first | refine blk_drewN ?_ _ | refine blk_drew ?_ | refine blk_alloc ?_ _)); exact BK321.out) hb); have n1_ := Aside0.mk (below_step (by repeat (first | (with_reducible first | exact HB.out | apply below_alloc | apply pw_below_drewN | apply below_drew1 | refine below_set ?_ GE321.out) | exact HB.out)) hb); clear BK321; clear HB; have BK321 := n0_; have HB := n1_; clear n0_ n1_; (try clear hb); (try clear hb2); (try clear hk); (try clear hi)))
   · go_meet
     case rel => exact ⟨_, (true), (by first | rfl | (simp; done) | (simp [*]; done)), H', ⟨by first | omega | exact Nat.le_refl _⟩, ⟨by (with_reducible repeat (first | refine blk_drewN ?_ _ | refine blk_drew ?_ | refine blk_alloc ?_ _)); exact BK321.out⟩, ⟨by repeat (first | (with_reducible first | exact HB.out | apply below_alloc | apply pw_below_drewN | apply below_drew1 | refine below_set ?_ GE321.out) | exact HB.out)⟩⟩
   · go_meet
     case rel => exact ⟨_, (!t323), (by first | rfl | (simp; done) | (simp [*]; done)), H', ⟨by first | omega | exact Nat.le_refl _⟩, ⟨by (with_reducible repeat (first | refine blk_drewN ?_ _ | refine blk_drew ?_ | refine blk_alloc ?_ _)); exact BK321.out⟩, ⟨by repeat (first | (with_reducible first | exact HB.out | apply below_alloc | apply pw_below_drewN | apply below_drew1 | refine below_set ?_ GE321.out) | exact HB.out)⟩⟩
  case rest =>
   clear HC3
   (try clear hcz8_0); (try clear hcz8_1); (try clear hcz8_2); (try clear hcz8_3); (try clear hcz8_4); (try clear hcz8_5); (try clear hfz8_0); (try clear hfz8_1); (try clear hfz8_2); (try clear hfz8_3); (try clear hfz8_4); (try clear hfz8_5)
   obtain ⟨kq, x20_2, rfl, HA, HJ2, BK321, HB⟩ := hcut
   cases kq with
   | zero => exact absurd HA.out (by simp [spec_NearestShape.j0])
   | succ kj2 =>
    have H := HA.out
    clear HA
    simp only [spec_NearestShape.j0] at H
    by_cases c10 : x20_2 = true
    ·
     subst c10
     have H1 : (some (0, 0, false)) = some (r1, r2, r3) := by rw [if_pos rfl] at H; exact H
     clear H
     have H := H1
     clear H1
     simp only [Option.some.injEq, Prod.mk.injEq] at H
     obtain ⟨rfl, rfl, rfl⟩ := H
     go_wp2
     go_ret3
     exact ⟨by first | rfl | (simp [errW_none, errW_some] <;> rfl) | (simp [*, errW_none, errW_some] <;> rfl), by repeat (first | (with_reducible first | exact HB.out | apply below_alloc | apply pw_below_drewN | apply below_drew1 | refine below_set ?_ GE321.out) | exact HB.out)⟩
    ·
     replace c10 := Bool.eq_false_iff.mpr c10
     subst c10
     have H1 : (spec_NearestShape.l0 kj2 (-1) 0 l0 (l0.length : Int) 0 a1_0 a1_1 a1_2 a1_3 a1_4 a1_5) = some (r1, r2, r3) := by rw [if_neg (show ¬ (false = true) by decide)] at H; exact H
     clear H
     have H := H1
     clear H1
     have H' := Aside0.mk H
     clear H
     go_wp2
     go_loopg [7, 8, 23] kj2 (fun kq v7 v8 v23 w' => ∃ (x7_2 : Int) (x8_2 : Int) (x23_2 : Int), v7 = .int .i64 x7_2 ∧ v8 = .int .i64 x8_2 ∧ v23 = .int .i64 x23_2 ∧ Aside0 (spec_NearestShape.l0 kq x7_2 x8_2 l0 (l0.length : Int) x23_2 a1_0 a1_1 a1_2 a1_3 a1_4 a1_5 = some (r1, r2, r3)) ∧ Aside0 (kq ≤ kj2) ∧ Aside0 (w'.heap[gb321]? = some (.cells #[.int .i64 a1_0, .int .i64 a1_1, .int .i64 a1_2, .int .i64 a1_3, .int .i64 a1_4, .bool a1_5] 25 (0, 0))) ∧ Aside0 (Below w.heap.size w w'))
     case atStart => exact ⟨((-1)), (0), (0), (by first | rfl | (simp; done) | (simp [*]; done)), (by first | rfl | (simp; done) | (simp [*]; done)), (by first | rfl | (simp; done) | (simp [*]; done)), H', ⟨Nat.le_refl _⟩, ⟨by (with_reducible repeat (first | refine blk_drewN ?_ _ | refine blk_drew ?_ | refine blk_alloc ?_ _)); exact BK321.out⟩, ⟨by repeat (first | (with_reducible first | exact HB.out | apply below_alloc | apply pw_below_drewN | apply below_drew1 | refine below_set ?_ GE321.out) | exact HB.out)⟩⟩
     case round =>
      clear H'
      (try clear hcz8_0); (try clear hcz8_1); (try clear hcz8_2); (try clear hcz8_3); (try clear hcz8_4); (try clear hcz8_5); (try clear hfz8_0); (try clear hfz8_1); (try clear hfz8_2); (try clear hfz8_3); (try clear hfz8_4); (try clear hfz8_5)
      obtain ⟨x7_2, x8_2, x23_2, rfl, rfl, rfl, HA, HK2, BK321, HB⟩ := hrel
      cases gk with
      | zero => exact absurd HA.out (by simp [spec_NearestShape.l0])
      | succ k2 =>
       have H := HA.out
       clear HA
       simp only [spec_NearestShape.l0] at H
       by_cases c11 : x23_2 < (l0.length : Int)
       ·
        rw [if_pos c11] at H
        have c11b0 : decide (x23_2 < (l0.length : Int)) = true := decide_eq_true c11
        clear c11
        refine dite (0 ≤ x23_2) (fun c12 => ?qp40) (fun c12 => ?qn40)
        case' qp40 =>
         rw [if_pos c12] at H
         have c12b0 : decide (0 ≤ x23_2) = true := decide_eq_true c12
         clear c12
         refine dite (x23_2 < (l0.length : Int)) (fun c13 => ?qp41) (fun c13 => ?qn41)
         case' qp41 =>
          rw [if_pos c13] at H
          have c13b0 : decide (x23_2 < (l0.length : Int)) = true := decide_eq_true c13
          clear c13
          replace H := Option.bind_eq_some_iff.mp H
          obtain ⟨t326, A140, H⟩ := H
          replace H : (if t326 = true then ((spec_shFar.f k2 ((rd_T25 l0 x23_2).f0) ((rd_T25 l0 x23_2).f1) ((rd_T25 l0 x23_2).f2) ((rd_T25 l0 x23_2).f3) ((rd_T25 l0 x23_2).f4) ((rd_T25 l0 x23_2).f5) a1_0 a1_1 a1_2 a1_3 a1_4 a1_5).bind fun t327 => (if x7_2 < 0 then (spec_NearestShape.l0 k2 x23_2 t327 l0 (l0.length : Int) (wrap64 (x23_2 + 1)) a1_0 a1_1 a1_2 a1_3 a1_4 a1_5) else (if t327 < x8_2 then (spec_NearestShape.l0 k2 x23_2 t327 l0 (l0.length : Int) (wrap64 (x23_2 + 1)) a1_0 a1_1 a1_2 a1_3 a1_4 a1_5) else (spec_NearestShape.l0 k2 x7_2 x8_2 l0 (l0.length : Int) (wrap64 (x23_2 + 1)) a1_0 a1_1 a1_2 a1_3 a1_4 a1_5)))) else (some (0, 0, false))) = some (r1, r2, r3) := H
          have A14 := Aside0.mk A140
          clear A140
          refine dite (t326 = true) (fun c15 => ?qp42) (fun c15 => ?qn42)
          case' qp42 =>
           subst c15
           have H1 : ((spec_shFar.f k2 ((rd_T25 l0 x23_2).f0) ((rd_T25 l0 x23_2).f1) ((rd_T25 l0 x23_2).f2) ((rd_T25 l0 x23_2).f3) ((rd_T25 l0 x23_2).f4) ((rd_T25 l0 x23_2).f5) a1_0 a1_1 a1_2 a1_3 a1_4 a1_5).bind fun t327 => (if x7_2 < 0 then (spec_NearestShape.l0 k2 x23_2 t327 l0 (l0.length : Int) (wrap64 (x23_2 + 1)) a1_0 a1_1 a1_2 a1_3 a1_4 a1_5) else (if t327 < x8_2 then (spec_NearestShape.l0 k2 x23_2 t327 l0 (l0.length : Int) (wrap64 (x23_2 + 1)) a1_0 a1_1 a1_2 a1_3 a1_4 a1_5) else (spec_NearestShape.l0 k2 x7_2 x8_2 l0 (l0.length : Int) (wrap64 (x23_2 + 1)) a1_0 a1_1 a1_2 a1_3 a1_4 a1_5)))) = some (r1, r2, r3) := by rw [if_pos rfl] at H; exact H
           clear H
           have H := H1
           clear H1
           replace H := Option.bind_eq_some_iff.mp H
           obtain ⟨t327, A160, H⟩ := H
           replace H : (if x7_2 < 0 then (spec_NearestShape.l0 k2 x23_2 t327 l0 (l0.length : Int) (wrap64 (x23_2 + 1)) a1_0 a1_1 a1_2 a1_3 a1_4 a1_5) else (if t327 < x8_2 then (spec_NearestShape.l0 k2 x23_2 t327 l0 (l0.length : Int) (wrap64 (x23_2 + 1)) a1_0 a1_1 a1_2 a1_3 a1_4 a1_5) else (spec_NearestShape.l0 k2 x7_2 x8_2 l0 (l0.length : Int) (wrap64 (x23_2 + 1)) a1_0 a1_1 a1_2 a1_3 a1_4 a1_5))) = some (r1, r2, r3) := H
           have A16 := Aside0.mk A160
           clear A160
           refine dite (x7_2 < 0) (fun c17 => ?qp43) (fun c17 => ?qn43)
           case' qp43 =>
            rw [if_pos c17] at H
            have c17b0 : decide (x7_2 < 0) = true := decide_eq_true c17
            clear c17
            have H' := Aside0.mk H
            clear H
           case' qn43 =>
            rw [if_neg c17] at H
            have c17b0 : decide (x7_2 < 0) = false := decide_eq_false c17
            clear c17
            refine dite (t327 < x8_2) (fun c25 => ?qp44) (fun c25 => ?qn44)
            case' qp44 =>
             rw [if_pos c25] at H
             have c25b0 : decide (t327 < x8_2) = true := decide_eq_true c25
             clear c25
             have H' := Aside0.mk H
             clear H
            case' qn44 =>
             rw [if_neg c25] at H
             have c25b0 : decide (t327 < x8_2) = false := decide_eq_false c25
             clear c25
             have H' := Aside0.mk H
             clear H
          case' qn42 =>
           replace c15 := Bool.eq_false_iff.mpr c15
           subst c15
           have H1 : (some (0, 0, false)) = some (r1, r2, r3) := by rw [if_neg (show ¬ (false = true) by decide)] at H; exact H
           clear H
           have H := H1
           clear H1
           simp only [Option.some.injEq, Prod.mk.injEq] at H
           obtain ⟨rfl, rfl, rfl⟩ := H
         case' qn41 =>
          rw [if_neg c13] at H
          exact absurd H (by simp)
        case' qn40 =>
         rw [if_neg c12] at H
         exact absurd H (by simp)
        all_goals
         have px0 : 0 ≤ (x23_2 : Int) := of_decide_eq_true (by first | (with_reducible assumption) | assumption)
         have qx0 : x23_2 < (l0.length : Int) := of_decide_eq_true (by first | (with_reducible assumption) | assumption)
         obtain ⟨adx0, ex0, hxx0_0, hxx0_1, hxx0_2, hxx0_3, hxx0_4, hxx0_5⟩ := at_T25 HR0.out x23_2 px0 qx0
         cases ex0
         replace hxx0_0 := (HB.out.cell (World.block_lt_of_cell? w _ hxx0_0)).trans hxx0_0
         replace hxx0_1 := (HB.out.cell (World.block_lt_of_cell? w _ hxx0_1)).trans hxx0_1
         replace hxx0_2 := (HB.out.cell (World.block_lt_of_cell? w _ hxx0_2)).trans hxx0_2
         replace hxx0_3 := (HB.out.cell (World.block_lt_of_cell? w _ hxx0_3)).trans hxx0_3
         replace hxx0_4 := (HB.out.cell (World.block_lt_of_cell? w _ hxx0_4)).trans hxx0_4
         replace hxx0_5 := (HB.out.cell (World.block_lt_of_cell? w _ hxx0_5)).trans hxx0_5
         replace px0 := eq_true px0
         replace qx0 := eq_true qx0
         go_wp2_with (first | ((with_reducible refine gate_dst (N := 10) rfl ?_); refine box_event ?hg (N := 10) ?hd (cs := #[.int .i64 0, .int .i64 0, .int .i64 0, .int .i64 0, .int .i64 0, .bool false]) (t := 25) ?hr ?_; (case hd => rfl); (case hg => rfl); (case hr => first | (go_simp; done) | (go_simp; rfl)); intro gbx0 hg wx0 hbox hb; have n0_ := Aside0.mk (blk_below (g := gb321) (o := .cells #[.int .i64 a1_0, .int .i64 a1_1, .int .i64 a1_2, .int .i64 a1_3, .int .i64 a1_4, .bool a1_5] 25 (0, 0)) (by (with_reducible repeat (first | refine blk_drewN ?_ _ | refine blk_drew ?_ | refine blk_alloc ?_ _)); exact BK321.out) hb); have n1_ := Aside0.mk (below_step (by repeat (first | (with_reducible first | exact HB.out | apply below_alloc | apply pw_below_drewN | apply below_drew1 | refine below_set ?_ GE321.out) | exact HB.out)) hb); have n2_ := Aside0.mk (hbox); have n3_ := Aside0.mk ((by rw [hg]; exact (below_size (by repeat (first | (with_reducible first | exact HB.out | apply below_alloc | apply pw_below_drewN | apply below_drew1 | refine below_set ?_ GE321.out) | exact HB.out))) : w.heap.size ≤ gbx0)); have n4_ := Aside0.mk ((by rw [hg]; exact (below_size (by repeat (first | (with_reducible first | exact HB.out | apply below_alloc | apply pw_below_drewN | apply below_drew1 | refine below_set ?_ GE321.out) | exact HB.out))) : w.heap.size ≤ gbx0)); have n5_ := Aside0.mk ((by rw [hg]; exact Nat.ne_of_lt (blk_lt (g := gb321) (o := .cells #[.int .i64 a1_0, .int .i64 a1_1, .int .i64 a1_2, .int .i64 a1_3, .int .i64 a1_4, .bool a1_5] 25 (0, 0)) (by (with_reducible repeat (first | refine blk_drewN ?_ _ | refine blk_drew ?_ | refine blk_alloc ?_ _)); exact BK321.out)) : gb321 ≠ gbx0)); have n6_ := Aside0.mk ((by rw [hg]; exact Nat.ne_of_gt (blk_lt (g := gb321) (o := .cells #[.int .i64 a1_0, .int .i64 a1_1, .int .i64 a1_2, .int .i64 a1_3, .int .i64 a1_4, .bool a1_5] 25 (0, 0)) (by (with_reducible repeat (first | refine blk_drewN ?_ _ | refine blk_drew ?_ | refine blk_alloc ?_ _)); exact BK321.out)) : gbx0 ≠ gb321)); clear BK321; clear HB; have BK321 := n0_; have HB := n1_; have BKx0 := n2_; have GWx0 := n3_; have GEx0 := n4_; have NBx1_325 := n5_; have NBx0_321 := n6_; clear n0_ n1_ n2_ n3_ n4_ n5_ n6_; clear hb hbox hg; have hnbx1 := NBx0_321.out; have hncx1 := NBx1_325.out; have hczx2_0 : wx0.cell? ⟨gbx0, 0, none⟩ = some (.int .i64 0) := (blk_cell BKx0.out 0).trans rfl; have hczx2_1 : wx0.cell? ⟨gbx0, 1, none⟩ = some (.int .i64 0) := (blk_cell BKx0.out 1).trans rfl; have hczx2_2 : wx0.cell? ⟨gbx0, 2, none⟩ = some (.int .i64 0) := (blk_cell BKx0.out 2).trans rfl; have hczx2_3 : wx0.cell? ⟨gbx0, 3, none⟩ = some (.int .i64 0) := (blk_cell BKx0.out 3).trans rfl; have hczx2_4 : wx0.cell? ⟨gbx0, 4, none⟩ = some (.int .i64 0) := (blk_cell BKx0.out 4).trans rfl; have hczx2_5 : wx0.cell? ⟨gbx0, 5, none⟩ = some (.bool false) := (blk_cell BKx0.out 5).trans rfl; have hfzx2_0 := blk_frozen BKx0.out 0; have hfzx2_1 := blk_frozen BKx0.out 1; have hfzx2_2 := blk_frozen BKx0.out 2; have hfzx2_3 := blk_frozen BKx0.out 3; have hfzx2_4 := blk_frozen BKx0.out 4; have hfzx2_5 := blk_frozen BKx0.out 5) | ((with_reducible refine gate_callee (f := 47) rfl ?_); refine goesL_ (some 29) rfl rfl Try.func47 (by kernel_rfl) rfl #[.agg #[.int .i64 ((rd_T25 l0 x23_2).f0), .int .i64 ((rd_T25 l0 x23_2).f1), .int .i64 ((rd_T25 l0 x23_2).f2), .int .i64 ((rd_T25 l0 x23_2).f3), .int .i64 ((rd_T25 l0 x23_2).f4), .bool ((rd_T25 l0 x23_2).f5)]] rfl (by (try simp only [List.map_toArray, List.map_cons, List.map_nil]); first | done | rfl | (simp only [List.length_drop, List.length_take]; rfl)) ?_; (with_reducible refine (spec_shGood.calls k2 ((rd_T25 l0 x23_2).f0) ((rd_T25 l0 x23_2).f1) ((rd_T25 l0 x23_2).f2) ((rd_T25 l0 x23_2).f3) ((rd_T25 l0 x23_2).f4) ((rd_T25 l0 x23_2).f5) _ _ A14.out).mono ?_); rintro e wx1 ⟨rfl, hb⟩; refine ⟨_, rfl, ?_⟩; have n0_ := Aside0.mk (blk_below (g := gb321) (o := .cells #[.int .i64 a1_0, .int .i64 a1_1, .int .i64 a1_2, .int .i64 a1_3, .int .i64 a1_4, .bool a1_5] 25 (0, 0)) (by (with_reducible repeat (first | refine blk_drewN ?_ _ | refine blk_drew ?_ | refine blk_alloc ?_ _)); refine blk_far ?_ NBx1_325.out _; (with_reducible repeat (first | refine blk_drewN ?_ _ | refine blk_drew ?_ | refine blk_alloc ?_ _)); refine blk_far ?_ NBx1_325.out _; (with_reducible repeat (first | refine blk_drewN ?_ _ | refine blk_drew ?_ | refine blk_alloc ?_ _)); refine blk_far ?_ NBx1_325.out _; (with_reducible repeat (first | refine blk_drewN ?_ _ | refine blk_drew ?_ | refine blk_alloc ?_ _)); refine blk_far ?_ NBx1_325.out _; (with_reducible repeat (first | refine blk_drewN ?_ _ | refine blk_drew ?_ | refine blk_alloc ?_ _)); refine blk_far ?_ NBx1_325.out _; (with_reducible repeat (first | refine blk_drewN ?_ _ | refine blk_drew ?_ | refine blk_alloc ?_ _)); refine blk_far ?_ NBx1_325.out _; (with_reducible repeat (first | refine blk_drewN ?_ _ | refine blk_drew ?_ | refine blk_alloc ?_ _)); exact BK321.out) hb); have n1_ := Aside0.mk (blk_below (g := gbx0) (o := .cells #[.int .i64 ((rd_T25 l0 x23_2).f0), .int .i64 ((rd_T25 l0 x23_2).f1), .int .i64 ((rd_T25 l0 x23_2).f2), .int .i64 ((rd_T25 l0 x23_2).f3), .int .i64 ((rd_T25 l0 x23_2).f4), .bool ((rd_T25 l0 x23_2).f5)] 25 (0, 0)) (by (with_reducible repeat (first | refine blk_drewN ?_ _ | refine blk_drew ?_ | refine blk_alloc ?_ _)); refine blk_put (cs := #[.int .i64 ((rd_T25 l0 x23_2).f0), .int .i64 ((rd_T25 l0 x23_2).f1), .int .i64 ((rd_T25 l0 x23_2).f2), .int .i64 ((rd_T25 l0 x23_2).f3), .int .i64 ((rd_T25 l0 x23_2).f4), .bool false]) ?_ 5 _ rfl; (with_reducible repeat (first | refine blk_drewN ?_ _ | refine blk_drew ?_ | refine blk_alloc ?_ _)); refine blk_put (cs := #[.int .i64 ((rd_T25 l0 x23_2).f0), .int .i64 ((rd_T25 l0 x23_2).f1), .int .i64 ((rd_T25 l0 x23_2).f2), .int .i64 ((rd_T25 l0 x23_2).f3), .int .i64 0, .bool false]) ?_ 4 _ rfl; (with_reducible repeat (first | refine blk_drewN ?_ _ | refine blk_drew ?_ | refine blk_alloc ?_ _)); refine blk_put (cs := #[.int .i64 ((rd_T25 l0 x23_2).f0), .int .i64 ((rd_T25 l0 x23_2).f1), .int .i64 ((rd_T25 l0 x23_2).f2), .int .i64 0, .int .i64 0, .bool false]) ?_ 3 _ rfl; (with_reducible repeat (first | refine blk_drewN ?_ _ | refine blk_drew ?_ | refine blk_alloc ?_ _)); refine blk_put (cs := #[.int .i64 ((rd_T25 l0 x23_2).f0), .int .i64 ((rd_T25 l0 x23_2).f1), .int .i64 0, .int .i64 0, .int .i64 0, .bool false]) ?_ 2 _ rfl; (with_reducible repeat (first | refine blk_drewN ?_ _ | refine blk_drew ?_ | refine blk_alloc ?_ _)); refine blk_put (cs := #[.int .i64 ((rd_T25 l0 x23_2).f0), .int .i64 0, .int .i64 0, .int .i64 0, .int .i64 0, .bool false]) ?_ 1 _ rfl; (with_reducible repeat (first | refine blk_drewN ?_ _ | refine blk_drew ?_ | refine blk_alloc ?_ _)); refine blk_put (cs := #[.int .i64 0, .int .i64 0, .int .i64 0, .int .i64 0, .int .i64 0, .bool false]) ?_ 0 _ rfl; (with_reducible repeat (first | refine blk_drewN ?_ _ | refine blk_drew ?_ | refine blk_alloc ?_ _)); exact BKx0.out) hb); have n2_ := Aside0.mk (below_step (by repeat (first | (with_reducible first | exact HB.out | apply below_alloc | apply pw_below_drewN | apply below_drew1 | refine below_set ?_ GE321.out | refine below_set ?_ GEx0.out) | exact HB.out)) hb); clear BK321; clear BKx0; clear HB; have BK321 := n0_; have BKx0 := n1_; have HB := n2_; clear n0_ n1_ n2_; (try clear hb); (try clear hb2); (try clear hk); (try clear hi); have hczx3_0 : wx1.cell? ⟨gbx0, 0, none⟩ = some (.int .i64 ((rd_T25 l0 x23_2).f0)) := (blk_cell BKx0.out 0).trans rfl; have hczx3_1 : wx1.cell? ⟨gbx0, 1, none⟩ = some (.int .i64 ((rd_T25 l0 x23_2).f1)) := (blk_cell BKx0.out 1).trans rfl; have hczx3_2 : wx1.cell? ⟨gbx0, 2, none⟩ = some (.int .i64 ((rd_T25 l0 x23_2).f2)) := (blk_cell BKx0.out 2).trans rfl; have hczx3_3 : wx1.cell? ⟨gbx0, 3, none⟩ = some (.int .i64 ((rd_T25 l0 x23_2).f3)) := (blk_cell BKx0.out 3).trans rfl; have hczx3_4 : wx1.cell? ⟨gbx0, 4, none⟩ = some (.int .i64 ((rd_T25 l0 x23_2).f4)) := (blk_cell BKx0.out 4).trans rfl; have hczx3_5 : wx1.cell? ⟨gbx0, 5, none⟩ = some (.bool ((rd_T25 l0 x23_2).f5)) := (blk_cell BKx0.out 5).trans rfl; have hfzx3_0 := blk_frozen BKx0.out 0; have hfzx3_1 := blk_frozen BKx0.out 1; have hfzx3_2 := blk_frozen BKx0.out 2; have hfzx3_3 := blk_frozen BKx0.out 3; have hfzx3_4 := blk_frozen BKx0.out 4; have hfzx3_5 := blk_frozen BKx0.out 5; have hczx4_0 : wx1.cell? ⟨gb321, 0, none⟩ = some (.int .i64 a1_0) := (blk_cell BK321.out 0).trans rfl; have hczx4_1 : wx1.cell? ⟨gb321, 1, none⟩ = some (.int .i64 a1_1) := (blk_cell BK321.out 1).trans rfl; have hczx4_2 : wx1.cell? ⟨gb321, 2, none⟩ = some (.int .i64 a1_2) := (blk_cell BK321.out 2).trans rfl; have hczx4_3 : wx1.cell? ⟨gb321, 3, none⟩ = some (.int .i64 a1_3) := (blk_cell BK321.out 3).trans rfl; have hczx4_4 : wx1.cell? ⟨gb321, 4, none⟩ = some (.int .i64 a1_4) := (blk_cell BK321.out 4).trans rfl; have hczx4_5 : wx1.cell? ⟨gb321, 5, none⟩ = some (.bool a1_5) := (blk_cell BK321.out 5).trans rfl; have hfzx4_0 := blk_frozen BK321.out 0; have hfzx4_1 := blk_frozen BK321.out 1; have hfzx4_2 := blk_frozen BK321.out 2; have hfzx4_3 := blk_frozen BK321.out 3; have hfzx4_4 := blk_frozen BK321.out 4; have hfzx4_5 := blk_frozen BK321.out 5) | ((with_reducible refine gate_callee (f := 58) rfl ?_); refine goesL_ (some 33) rfl rfl Try.func58 (by kernel_rfl) rfl #[.agg #[.int .i64 ((rd_T25 l0 x23_2).f0), .int .i64 ((rd_T25 l0 x23_2).f1), .int .i64 ((rd_T25 l0 x23_2).f2), .int .i64 ((rd_T25 l0 x23_2).f3), .int .i64 ((rd_T25 l0 x23_2).f4), .bool ((rd_T25 l0 x23_2).f5)], .agg #[.int .i64 a1_0, .int .i64 a1_1, .int .i64 a1_2, .int .i64 a1_3, .int .i64 a1_4, .bool a1_5]] rfl (by (try simp only [List.map_toArray, List.map_cons, List.map_nil]); first | done | rfl | (simp only [List.length_drop, List.length_take]; rfl)) ?_; (with_reducible refine (spec_shFar.calls k2 ((rd_T25 l0 x23_2).f0) ((rd_T25 l0 x23_2).f1) ((rd_T25 l0 x23_2).f2) ((rd_T25 l0 x23_2).f3) ((rd_T25 l0 x23_2).f4) ((rd_T25 l0 x23_2).f5) a1_0 a1_1 a1_2 a1_3 a1_4 a1_5 _ _ A16.out).mono ?_); rintro e wx2 ⟨rfl, hb⟩; refine ⟨_, rfl, ?_⟩; have n0_ := Aside0.mk (blk_below (g := gb321) (o := .cells #[.int .i64 a1_0, .int .i64 a1_1, .int .i64 a1_2, .int .i64 a1_3, .int .i64 a1_4, .bool a1_5] 25 (0, 0)) (by (with_reducible repeat (first | refine blk_drewN ?_ _ | refine blk_drew ?_ | refine blk_alloc ?_ _)); exact BK321.out) hb); have n1_ := Aside0.mk (blk_below (g := gbx0) (o := .cells #[.int .i64 ((rd_T25 l0 x23_2).f0), .int .i64 ((rd_T25 l0 x23_2).f1), .int .i64 ((rd_T25 l0 x23_2).f2), .int .i64 ((rd_T25 l0 x23_2).f3), .int .i64 ((rd_T25 l0 x23_2).f4), .bool ((rd_T25 l0 x23_2).f5)] 25 (0, 0)) (by (with_reducible repeat (first | refine blk_drewN ?_ _ | refine blk_drew ?_ | refine blk_alloc ?_ _)); exact BKx0.out) hb); have n2_ := Aside0.mk (below_step (by repeat (first | (with_reducible first | exact HB.out | apply below_alloc | apply pw_below_drewN | apply below_drew1 | refine below_set ?_ GE321.out | refine below_set ?_ GEx0.out) | exact HB.out)) hb); clear BK321; clear BKx0; clear HB; have BK321 := n0_; have BKx0 := n1_; have HB := n2_; clear n0_ n1_ n2_; (try clear hb); (try clear hb2); (try clear hk); (try clear hi)))
        · go_ret3
          exact ⟨by first | rfl | (simp [errW_none, errW_some] <;> rfl) | (simp [*, errW_none, errW_some] <;> rfl), by repeat (first | (with_reducible first | exact HB.out | apply below_alloc | apply pw_below_drewN | apply below_drew1 | refine below_set ?_ GE321.out | refine below_set ?_ GEx0.out) | exact HB.out)⟩
        ·
         go_roundg k2
         case measure => have := HJ2.out; have := HK2.out; omega
         case rel => exact ⟨(x7_2), (x8_2), (wrap64 (x23_2 + 1)), (by first | rfl | (simp; done) | (simp [*]; done)), (by first | rfl | (simp; done) | (simp [*]; done)), (by first | rfl | (simp; done) | (simp [*]; done)), H', ⟨by have := HJ2.out; have := HK2.out; omega⟩, ⟨by (with_reducible repeat (first | refine blk_drewN ?_ _ | refine blk_drew ?_ | refine blk_alloc ?_ _)); exact BK321.out⟩, ⟨by repeat (first | (with_reducible first | exact HB.out | apply below_alloc | apply pw_below_drewN | apply below_drew1 | refine below_set ?_ GE321.out | refine below_set ?_ GEx0.out) | exact HB.out)⟩⟩
        ·
         go_roundg k2
         case measure => have := HJ2.out; have := HK2.out; omega
         case rel => exact ⟨(x23_2), (t327), (wrap64 (x23_2 + 1)), (by first | rfl | (simp; done) | (simp [*]; done)), (by first | rfl | (simp; done) | (simp [*]; done)), (by first | rfl | (simp; done) | (simp [*]; done)), H', ⟨by have := HJ2.out; have := HK2.out; omega⟩, ⟨by (with_reducible repeat (first | refine blk_drewN ?_ _ | refine blk_drew ?_ | refine blk_alloc ?_ _)); exact BK321.out⟩, ⟨by repeat (first | (with_reducible first | exact HB.out | apply below_alloc | apply pw_below_drewN | apply below_drew1 | refine below_set ?_ GE321.out | refine below_set ?_ GEx0.out) | exact HB.out)⟩⟩
        ·
         go_roundg k2
         case measure => have := HJ2.out; have := HK2.out; omega
         case rel => exact ⟨(x23_2), (t327), (wrap64 (x23_2 + 1)), (by first | rfl | (simp; done) | (simp [*]; done)), (by first | rfl | (simp; done) | (simp [*]; done)), (by first | rfl | (simp; done) | (simp [*]; done)), H', ⟨by have := HJ2.out; have := HK2.out; omega⟩, ⟨by (with_reducible repeat (first | refine blk_drewN ?_ _ | refine blk_drew ?_ | refine blk_alloc ?_ _)); exact BK321.out⟩, ⟨by repeat (first | (with_reducible first | exact HB.out | apply below_alloc | apply pw_below_drewN | apply below_drew1 | refine below_set ?_ GE321.out | refine below_set ?_ GEx0.out) | exact HB.out)⟩⟩
       ·
        rw [if_neg c11] at H
        have c11b0 : decide (x23_2 < (l0.length : Int)) = false := decide_eq_false c11
        clear c11
        simp only [Option.some.injEq, Prod.mk.injEq] at H
        obtain ⟨rfl, rfl, rfl⟩ := H
        go_wp2
        go_ret3
        exact ⟨by first | rfl | (simp [errW_none, errW_some] <;> rfl) | (simp [*, errW_none, errW_some] <;> rfl), by repeat (first | (with_reducible first | exact HB.out | apply below_alloc | apply pw_below_drewN | apply below_drew1 | refine below_set ?_ GE321.out) | exact HB.out)⟩

-- NOT PRINTED: function 105 (impl_Shape_105)

-- NOT PRINTED: function 85 (impl_Shape_85)

-- NOT PRINTED: function 86 (impl_Shape_1)

end Go.Proofs.Ytaecjbhenknfkaa.FD
