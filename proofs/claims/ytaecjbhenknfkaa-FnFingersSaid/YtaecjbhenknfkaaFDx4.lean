-- laid by pr.py (wip/tools) over the kit's printer; Lean checks it
import Derived.Test.YtaecjbhenknfkaaFDx0
import Derived.Test.YtaecjbhenknfkaaFDx3
namespace Go.Proofs.Ytaecjbhenknfkaa.FD
open Go.RowKit Go.Proofs.YtaecjbhenknfkaaW.PrintWords Go.Proofs.YtaecjbhenknfkaaW.PrintLast Go.Proofs.YtaecjbhenknfkaaW.PrintMore
attribute [local go_sem] max2_int min2_int max_two min_two max_three min_three max_four min_four   -- for this text's walks alone
set_option linter.unusedVariables false
set_option linter.unusedSimpArgs false

/-! ### spec_shWide: function 77 -/
def spec_shWide.l0 : Nat → List Int → Int → Option (Bool)
  | 0, _, _ => none
  | k + 1, x3, x4 => if x4 < 4 then (if 0 ≤ (wrap64 (x4 - 1)) then (if (wrap64 (x4 - 1)) < (x3.length : Int) then (if (rd x3 (wrap64 (x4 - 1))) = 0 then (if 0 ≤ x4 then (if x4 < (x3.length : Int) then (if (rd x3 x4) = 0 then (some true) else (spec_shWide.l0 k x3 (wrap64 (x4 + 1)))) else (none)) else (none)) else (spec_shWide.l0 k x3 (wrap64 (x4 + 1)))) else (none)) else (none)) else (some false)
def spec_shWide.f (k : Nat) (a0_0 : Int) (a0_1 : Int) (a0_2 : Int) (a0_3 : Int) (a0_4 : Int) (a0_5 : Bool) : Option (Bool) := (spec_shFingers.f a0_0 a0_1 a0_2 a0_3 a0_4 a0_5).bind fun t125 => (spec_shWide.l0 k t125 1)
theorem spec_shWide.mono_l : ∀ k, (∀ y0 y1, LeO (spec_shWide.l0 k y0 y1) (spec_shWide.l0 (k + 1) y0 y1))
  | 0 => fun _ _ r h => by simp [spec_shWide.l0] at h
  | k + 1 => by
    have ih0 := spec_shWide.mono_l k
    · intro y0 y1
      unfold spec_shWide.l0
      repeat' first
      | (with_reducible exact ih0 _ _)
      | (with_reducible exact LeO.refl _)
      | (with_reducible exact LeO.none _)
      | (with_reducible refine LeO.ite ?_ ?_)
      | (with_reducible refine LeO.bind ?_ (fun _ => ?_))
      | exact ih0 _ _
      | exact LeO.none _
      | refine LeO.ite ?_ ?_
      | refine LeO.bind ?_ (fun _ => ?_)
theorem spec_shWide.mono : ∀ a0 a1 a2 a3 a4 a5 k, LeO (spec_shWide.f k a0 a1 a2 a3 a4 a5) (spec_shWide.f (k + 1) a0 a1 a2 a3 a4 a5) := by
  intro a0 a1 a2 a3 a4 a5 k
  have ih0 := spec_shWide.mono_l k
  unfold spec_shWide.f
  repeat' first
    | (with_reducible exact ih0 _ _)
    | (with_reducible exact LeO.refl _)
    | (with_reducible exact LeO.none _)
    | (with_reducible refine LeO.ite ?_ ?_)
    | (with_reducible refine LeO.bind ?_ (fun _ => ?_))
    | exact ih0 _ _
    | exact LeO.none _
    | refine LeO.ite ?_ ?_
    | refine LeO.bind ?_ (fun _ => ?_)
set_option maxHeartbeats 8000000 in
set_option maxRecDepth 100000 in
theorem spec_shWide.calls (k : Nat) (a0_0 : Int) (a0_1 : Int) (a0_2 : Int) (a0_3 : Int) (a0_4 : Int) (a0_5 : Bool) (r : Bool) (w : World) (h : spec_shWide.f k a0_0 a0_1 a0_2 a0_3 a0_4 a0_5 = some r) :
    Calls Try.prog 77 #[.agg #[.int .i64 a0_0, .int .i64 a0_1, .int .i64 a0_2, .int .i64 a0_3, .int .i64 a0_4, .bool a0_5]] w fun e w' => e = .returned (.bool r) ∧ Below w.heap.size w w' := by
  have hu25 := Try.underlying25
  have HB := Aside0.mk (Below.refl w.heap.size w)
  have H : ((spec_shFingers.f a0_0 a0_1 a0_2 a0_3 a0_4 a0_5).bind fun t125 => (spec_shWide.l0 k t125 1)) = some r := h
  clear h
  replace H := Option.bind_eq_some_iff.mp H
  obtain ⟨t125, A20, H⟩ := H
  replace H : (spec_shWide.l0 k t125 1) = some r := H
  have A2 := Aside0.mk A20
  clear A20
  have H' := Aside0.mk H
  clear H
  go_enter Try.func77, Try.ntmps77
  go_wp2_with (first | ((with_reducible refine gate_dst (N := 1) rfl ?_); refine box_event ?hg (N := 1) ?hd (cs := #[.int .i64 a0_0, .int .i64 a0_1, .int .i64 a0_2, .int .i64 a0_3, .int .i64 a0_4, .bool a0_5]) (t := 25) ?hr ?_; (case hd => rfl); (case hg => rfl); (case hr => first | (go_simp; done) | (go_simp; rfl)); intro gb124 hg w3 hbox hb; have n0_ := Aside0.mk (below_step (by repeat (first | (with_reducible first | exact HB.out | apply below_alloc | apply pw_below_drewN | apply below_drew1) | exact HB.out)) hb); have n1_ := Aside0.mk (hbox); have n2_ := Aside0.mk ((by rw [hg]; exact (below_size (by repeat (first | (with_reducible first | exact HB.out | apply below_alloc | apply pw_below_drewN | apply below_drew1) | exact HB.out))) : w.heap.size ≤ gb124)); have n3_ := Aside0.mk ((by rw [hg]; exact (below_size (by repeat (first | (with_reducible first | exact HB.out | apply below_alloc | apply pw_below_drewN | apply below_drew1) | exact HB.out))) : w.heap.size ≤ gb124)); clear HB; have HB := n0_; have BK124 := n1_; have GW124 := n2_; have GE124 := n3_; clear n0_ n1_ n2_ n3_; clear hb hbox hg; have hcz4_0 : w3.cell? ⟨gb124, 0, none⟩ = some (.int .i64 a0_0) := (blk_cell BK124.out 0).trans rfl; have hcz4_1 : w3.cell? ⟨gb124, 1, none⟩ = some (.int .i64 a0_1) := (blk_cell BK124.out 1).trans rfl; have hcz4_2 : w3.cell? ⟨gb124, 2, none⟩ = some (.int .i64 a0_2) := (blk_cell BK124.out 2).trans rfl; have hcz4_3 : w3.cell? ⟨gb124, 3, none⟩ = some (.int .i64 a0_3) := (blk_cell BK124.out 3).trans rfl; have hcz4_4 : w3.cell? ⟨gb124, 4, none⟩ = some (.int .i64 a0_4) := (blk_cell BK124.out 4).trans rfl; have hcz4_5 : w3.cell? ⟨gb124, 5, none⟩ = some (.bool a0_5) := (blk_cell BK124.out 5).trans rfl; have hfz4_0 := blk_frozen BK124.out 0; have hfz4_1 := blk_frozen BK124.out 1; have hfz4_2 := blk_frozen BK124.out 2; have hfz4_3 := blk_frozen BK124.out 3; have hfz4_4 := blk_frozen BK124.out 4; have hfz4_5 := blk_frozen BK124.out 5) | ((with_reducible refine gate_callee (f := 51) rfl ?_); refine goesL_ (some 6) rfl rfl Try.func51 (by kernel_rfl) rfl #[.agg #[.int .i64 a0_0, .int .i64 a0_1, .int .i64 a0_2, .int .i64 a0_3, .int .i64 a0_4, .bool a0_5]] rfl (by (try simp only [List.map_toArray, List.map_cons, List.map_nil]); first | done | rfl | (simp only [List.length_drop, List.length_take]; rfl)) ?_; (with_reducible refine (spec_shFingers.calls a0_0 a0_1 a0_2 a0_3 a0_4 a0_5 t125 _ A2.out).mono ?_); rintro e w5 ⟨v126, rfl, ho0, hb⟩; refine ⟨_, rfl, ?_⟩; have n0_ := Aside0.mk (Kd.R_lower ho0 (below_size (by repeat (first | (with_reducible first | exact HB.out | apply below_alloc | apply pw_below_drewN | apply below_drew1 | refine below_set ?_ GE124.out) | exact HB.out)))); have n1_ := Aside0.mk (blk_below (g := gb124) (o := .cells #[.int .i64 a0_0, .int .i64 a0_1, .int .i64 a0_2, .int .i64 a0_3, .int .i64 a0_4, .bool a0_5] 25 (0, 0)) (by (with_reducible repeat (first | refine blk_drewN ?_ _ | refine blk_drew ?_ | refine blk_alloc ?_ _)); exact BK124.out) hb); have n2_ := Aside0.mk (below_step (by repeat (first | (with_reducible first | exact HB.out | apply below_alloc | apply pw_below_drewN | apply below_drew1 | refine below_set ?_ GE124.out) | exact HB.out)) hb); clear BK124; clear HB; have HO127 := n0_; have BK124 := n1_; have HB := n2_; clear n0_ n1_ n2_; (try clear hb); (try clear hb2); (try clear hk); (try clear hi); (try clear ho0)))
  go_loopg [4] k (fun kq v4 w' => ∃ (x4_1 : Int), v4 = .int .i64 x4_1 ∧ Aside0 (spec_shWide.l0 kq t125 x4_1 = some r) ∧ Aside0 (kq ≤ k) ∧ Aside0 (Kd.R (Kd.int .i64) 3 w' w.heap.size (fun _ => True) v126 t125) ∧ Aside0 (w'.heap[gb124]? = some (.cells #[.int .i64 a0_0, .int .i64 a0_1, .int .i64 a0_2, .int .i64 a0_3, .int .i64 a0_4, .bool a0_5] 25 (0, 0))) ∧ Aside0 (Below w.heap.size w w'))
  case atStart => exact ⟨(1), (by first | rfl | (simp; done) | (simp [*]; done)), H', ⟨Nat.le_refl _⟩, ⟨by (with_reducible repeat (first | apply Kd.R_alloc | apply Kd.R_drewN | apply Kd.R_drew)); exact HO127.out⟩, ⟨by (with_reducible repeat (first | refine blk_drewN ?_ _ | refine blk_drew ?_ | refine blk_alloc ?_ _)); exact BK124.out⟩, ⟨by repeat (first | (with_reducible first | exact HB.out | apply below_alloc | apply pw_below_drewN | apply below_drew1 | refine below_set ?_ GE124.out) | exact HB.out)⟩⟩
  case round =>
   clear H'
   (try clear hcz4_0); (try clear hcz4_1); (try clear hcz4_2); (try clear hcz4_3); (try clear hcz4_4); (try clear hcz4_5); (try clear hfz4_0); (try clear hfz4_1); (try clear hfz4_2); (try clear hfz4_3); (try clear hfz4_4); (try clear hfz4_5)
   obtain ⟨x4_1, rfl, HA, HK1, HO_3, BK124, HB⟩ := hrel
   cases gk with
   | zero => exact absurd HA.out (by simp [spec_shWide.l0])
   | succ k1 =>
    have H := HA.out
    clear HA
    simp only [spec_shWide.l0] at H
    refine dite (x4_1 < 4) (fun c6 => ?qp4) (fun c6 => ?qn4)
    case' qp4 =>
     rw [if_pos c6] at H
     have c6b0 : decide (x4_1 < 4) = true := decide_eq_true c6
     clear c6
     obtain ⟨ji7, hji7⟩ : ∃ j_ : Int, (wrap64 (x4_1 - 1)) = j_ := ⟨_, rfl⟩
     replace H : (if 0 ≤ (ji7) then (if (ji7) < (t125.length : Int) then (if (rd t125 (ji7)) = 0 then (if 0 ≤ x4_1 then (if x4_1 < (t125.length : Int) then (if (rd t125 x4_1) = 0 then (some true) else (spec_shWide.l0 k1 t125 (wrap64 (x4_1 + 1)))) else (none)) else (none)) else (spec_shWide.l0 k1 t125 (wrap64 (x4_1 + 1)))) else (none)) else (none)) = some r := by first | (rw [hji7] at H; exact H) | (simp only [hji7] at H ⊢; exact H)
     have hji7w : (IntKind.i64.wrap (x4_1 - 1)) = ji7 := (i64_w _).trans hji7
     refine dite (0 ≤ (ji7)) (fun c8 => ?qp5) (fun c8 => ?qn5)
     case' qp5 =>
      rw [if_pos c8] at H
      have c8b0 : decide (0 ≤ (ji7)) = true := decide_eq_true c8
      clear c8
      refine dite ((ji7) < (t125.length : Int)) (fun c9 => ?qp6) (fun c9 => ?qn6)
      case' qp6 =>
       rw [if_pos c9] at H
       have c9b0 : decide ((ji7) < (t125.length : Int)) = true := decide_eq_true c9
       clear c9
       refine dite ((rd t125 (ji7)) = 0) (fun c10 => ?qp7) (fun c10 => ?qn7)
       case' qp7 =>
        rw [if_pos c10] at H
        have c10b0 : ((rd t125 (ji7)) == 0) = true := beq_iff_eq.mpr c10
        have c10b1 : ((rd t125 (ji7)) != 0) = false := bne_eq_false_iff_eq.mpr c10
        clear c10
        refine dite (0 ≤ x4_1) (fun c11 => ?qp8) (fun c11 => ?qn8)
        case' qp8 =>
         rw [if_pos c11] at H
         have c11b0 : decide (0 ≤ x4_1) = true := decide_eq_true c11
         clear c11
         refine dite (x4_1 < (t125.length : Int)) (fun c12 => ?qp9) (fun c12 => ?qn9)
         case' qp9 =>
          rw [if_pos c12] at H
          have c12b0 : decide (x4_1 < (t125.length : Int)) = true := decide_eq_true c12
          clear c12
          refine dite ((rd t125 x4_1) = 0) (fun c13 => ?qp10) (fun c13 => ?qn10)
          case' qp10 =>
           rw [if_pos c13] at H
           have c13b0 : ((rd t125 x4_1) == 0) = true := beq_iff_eq.mpr c13
           have c13b1 : ((rd t125 x4_1) != 0) = false := bne_eq_false_iff_eq.mpr c13
           clear c13
           obtain rfl := Option.some.inj H
           obtain ⟨Aox0, cox0, eox0⟩ := Kd.R_slice HO_3.out
           subst eox0
           have px1 : 0 ≤ ((ji7) : Int) := of_decide_eq_true (by first | (with_reducible assumption) | assumption)
           have qx1 : (ji7) < (t125.length : Int) := of_decide_eq_true (by first | (with_reducible assumption) | assumption)
           obtain ⟨adx1, ex1, hxx1_0⟩ := Kd.at_int (Kd.R_reads' HO_3.out).2.2 (ji7) px1 qx1
           cases ex1
           replace px1 := eq_true px1
           replace qx1 := eq_true qx1
           have px2 : 0 ≤ (x4_1 : Int) := of_decide_eq_true (by first | (with_reducible assumption) | assumption)
           have qx2 : x4_1 < (t125.length : Int) := of_decide_eq_true (by first | (with_reducible assumption) | assumption)
           obtain ⟨adx2, ex2, hxx2_0⟩ := Kd.at_int (Kd.R_reads' HO_3.out).2.2 x4_1 px2 qx2
           obtain rfl : adx1 = adx2 := (by injection ex2)
           replace px2 := eq_true px2
           replace qx2 := eq_true qx2
          case' qn10 =>
           rw [if_neg c13] at H
           have c13b0 : ((rd t125 x4_1) == 0) = false := beq_eq_false_iff_ne.mpr c13
           have c13b1 : ((rd t125 x4_1) != 0) = true := bne_iff_ne.mpr c13
           have H' := Aside0.mk H
           clear H
           obtain ⟨Aox0, cox0, eox0⟩ := Kd.R_slice HO_3.out
           subst eox0
           have px1 : 0 ≤ ((ji7) : Int) := of_decide_eq_true (by first | (with_reducible assumption) | assumption)
           have qx1 : (ji7) < (t125.length : Int) := of_decide_eq_true (by first | (with_reducible assumption) | assumption)
           obtain ⟨adx1, ex1, hxx1_0⟩ := Kd.at_int (Kd.R_reads' HO_3.out).2.2 (ji7) px1 qx1
           cases ex1
           replace px1 := eq_true px1
           replace qx1 := eq_true qx1
           have px2 : 0 ≤ (x4_1 : Int) := of_decide_eq_true (by first | (with_reducible assumption) | assumption)
           have qx2 : x4_1 < (t125.length : Int) := of_decide_eq_true (by first | (with_reducible assumption) | assumption)
           obtain ⟨adx2, ex2, hxx2_0⟩ := Kd.at_int (Kd.R_reads' HO_3.out).2.2 x4_1 px2 qx2
           obtain rfl : adx1 = adx2 := (by injection ex2)
           replace px2 := eq_true px2
           replace qx2 := eq_true qx2
         case' qn9 =>
          rw [if_neg c12] at H
          exact absurd H (by simp)
        case' qn8 =>
         rw [if_neg c11] at H
         exact absurd H (by simp)
       case' qn7 =>
        rw [if_neg c10] at H
        have c10b0 : ((rd t125 (ji7)) == 0) = false := beq_eq_false_iff_ne.mpr c10
        have c10b1 : ((rd t125 (ji7)) != 0) = true := bne_iff_ne.mpr c10
        have H' := Aside0.mk H
        clear H
        obtain ⟨Aox0, cox0, eox0⟩ := Kd.R_slice HO_3.out
        subst eox0
        have px1 : 0 ≤ ((ji7) : Int) := of_decide_eq_true (by first | (with_reducible assumption) | assumption)
        have qx1 : (ji7) < (t125.length : Int) := of_decide_eq_true (by first | (with_reducible assumption) | assumption)
        obtain ⟨adx1, ex1, hxx1_0⟩ := Kd.at_int (Kd.R_reads' HO_3.out).2.2 (ji7) px1 qx1
        cases ex1
        replace px1 := eq_true px1
        replace qx1 := eq_true qx1
      case' qn6 =>
       rw [if_neg c9] at H
       exact absurd H (by simp)
     case' qn5 =>
      rw [if_neg c8] at H
      exact absurd H (by simp)
    case' qn4 =>
     rw [if_neg c6] at H
     have c6b0 : decide (x4_1 < 4) = false := decide_eq_false c6
     clear c6
     obtain rfl := Option.some.inj H
    all_goals
     go_wp2
    · go_ret
      exact ⟨by first | rfl | (simp [errW_none, errW_some] <;> rfl) | (simp [*, errW_none, errW_some] <;> rfl), by repeat (first | (with_reducible first | exact HB.out | apply below_alloc | apply pw_below_drewN | apply below_drew1 | refine below_set ?_ GE124.out) | exact HB.out)⟩
    ·
     go_roundg k1
     case measure => have := HK1.out; omega
     case rel => exact ⟨(wrap64 (x4_1 + 1)), (by first | rfl | (simp; done) | (simp [*]; done)), H', ⟨by have := HK1.out; omega⟩, ⟨by (with_reducible repeat (first | apply Kd.R_alloc | apply Kd.R_drewN | apply Kd.R_drew)); exact HO_3.out⟩, ⟨by (with_reducible repeat (first | refine blk_drewN ?_ _ | refine blk_drew ?_ | refine blk_alloc ?_ _)); exact BK124.out⟩, ⟨by repeat (first | (with_reducible first | exact HB.out | apply below_alloc | apply pw_below_drewN | apply below_drew1 | refine below_set ?_ GE124.out) | exact HB.out)⟩⟩
    ·
     go_roundg k1
     case measure => have := HK1.out; omega
     case rel => exact ⟨(wrap64 (x4_1 + 1)), (by first | rfl | (simp; done) | (simp [*]; done)), H', ⟨by have := HK1.out; omega⟩, ⟨by (with_reducible repeat (first | apply Kd.R_alloc | apply Kd.R_drewN | apply Kd.R_drew)); exact HO_3.out⟩, ⟨by (with_reducible repeat (first | refine blk_drewN ?_ _ | refine blk_drew ?_ | refine blk_alloc ?_ _)); exact BK124.out⟩, ⟨by repeat (first | (with_reducible first | exact HB.out | apply below_alloc | apply pw_below_drewN | apply below_drew1 | refine below_set ?_ GE124.out) | exact HB.out)⟩⟩
    · go_ret
      exact ⟨by first | rfl | (simp [errW_none, errW_some] <;> rfl) | (simp only [← hji7]; first | rfl | (simp [errW_none, errW_some] <;> rfl)) | (simp [*, errW_none, errW_some] <;> rfl), by repeat (first | (with_reducible first | exact HB.out | apply below_alloc | apply pw_below_drewN | apply below_drew1 | refine below_set ?_ GE124.out) | exact HB.out)⟩

/-! ### spec_shGood: function 47 -/
def spec_shGood.f (k : Nat) (a0_0 : Int) (a0_1 : Int) (a0_2 : Int) (a0_3 : Int) (a0_4 : Int) (a0_5 : Bool) : Option (Bool) := (spec_l1In.f a0_0 0 2).bind fun t131 => (if t131 = true then ((spec_shFingers.f a0_0 a0_1 a0_2 a0_3 a0_4 a0_5).bind fun t132 => ((spec_l1All.f k t132 0 2).bind fun t135 => (if t135 = true then (if a0_5 = true then ((spec_shWide.f k a0_0 a0_1 a0_2 a0_3 a0_4 a0_5).bind fun t136 => (some t136)) else (some true)) else (some false)))) else (some false))
theorem spec_shGood.mono : ∀ a0 a1 a2 a3 a4 a5 k, LeO (spec_shGood.f k a0 a1 a2 a3 a4 a5) (spec_shGood.f (k + 1) a0 a1 a2 a3 a4 a5) := by
  intro a0 a1 a2 a3 a4 a5 k
  unfold spec_shGood.f
  repeat' first
    | (with_reducible exact spec_l1All.mono _ _ _ _)
    | (with_reducible exact spec_shWide.mono _ _ _ _ _ _ _)
    | (with_reducible exact LeO.refl _)
    | (with_reducible exact LeO.none _)
    | (with_reducible refine LeO.ite ?_ ?_)
    | (with_reducible refine LeO.bind ?_ (fun _ => ?_))
    | exact spec_l1All.mono _ _ _ _
    | exact spec_shWide.mono _ _ _ _ _ _ _
    | exact LeO.none _
    | refine LeO.ite ?_ ?_
    | refine LeO.bind ?_ (fun _ => ?_)
set_option maxHeartbeats 8000000 in
set_option maxRecDepth 100000 in
theorem spec_shGood.calls (k : Nat) (a0_0 : Int) (a0_1 : Int) (a0_2 : Int) (a0_3 : Int) (a0_4 : Int) (a0_5 : Bool) (r : Bool) (w : World) (h : spec_shGood.f k a0_0 a0_1 a0_2 a0_3 a0_4 a0_5 = some r) :
    Calls Try.prog 47 #[.agg #[.int .i64 a0_0, .int .i64 a0_1, .int .i64 a0_2, .int .i64 a0_3, .int .i64 a0_4, .bool a0_5]] w fun e w' => e = .returned (.bool r) ∧ Below w.heap.size w w' := by
  have hu25 := Try.underlying25
  have HB := Aside0.mk (Below.refl w.heap.size w)
  have H : ((spec_l1In.f a0_0 0 2).bind fun t131 => (if t131 = true then ((spec_shFingers.f a0_0 a0_1 a0_2 a0_3 a0_4 a0_5).bind fun t132 => ((spec_l1All.f k t132 0 2).bind fun t135 => (if t135 = true then (if a0_5 = true then ((spec_shWide.f k a0_0 a0_1 a0_2 a0_3 a0_4 a0_5).bind fun t136 => (some t136)) else (some true)) else (some false)))) else (some false))) = some r := h
  clear h
  replace H := Option.bind_eq_some_iff.mp H
  obtain ⟨t131, A20, H⟩ := H
  replace H : (if t131 = true then ((spec_shFingers.f a0_0 a0_1 a0_2 a0_3 a0_4 a0_5).bind fun t132 => ((spec_l1All.f k t132 0 2).bind fun t135 => (if t135 = true then (if a0_5 = true then ((spec_shWide.f k a0_0 a0_1 a0_2 a0_3 a0_4 a0_5).bind fun t136 => (some t136)) else (some true)) else (some false)))) else (some false)) = some r := H
  have A2 := Aside0.mk A20
  clear A20
  refine dite (t131 = true) (fun c3 => ?qp11) (fun c3 => ?qn11)
  case' qp11 =>
   subst c3
   have H1 : ((spec_shFingers.f a0_0 a0_1 a0_2 a0_3 a0_4 a0_5).bind fun t132 => ((spec_l1All.f k t132 0 2).bind fun t135 => (if t135 = true then (if a0_5 = true then ((spec_shWide.f k a0_0 a0_1 a0_2 a0_3 a0_4 a0_5).bind fun t136 => (some t136)) else (some true)) else (some false)))) = some r := by rw [if_pos rfl] at H; exact H
   clear H
   have H := H1
   clear H1
   replace H := Option.bind_eq_some_iff.mp H
   obtain ⟨t132, A40, H⟩ := H
   replace H : ((spec_l1All.f k t132 0 2).bind fun t135 => (if t135 = true then (if a0_5 = true then ((spec_shWide.f k a0_0 a0_1 a0_2 a0_3 a0_4 a0_5).bind fun t136 => (some t136)) else (some true)) else (some false))) = some r := H
   have A4 := Aside0.mk A40
   clear A40
   replace H := Option.bind_eq_some_iff.mp H
   obtain ⟨t135, A50, H⟩ := H
   replace H : (if t135 = true then (if a0_5 = true then ((spec_shWide.f k a0_0 a0_1 a0_2 a0_3 a0_4 a0_5).bind fun t136 => (some t136)) else (some true)) else (some false)) = some r := H
   have A5 := Aside0.mk A50
   clear A50
   refine dite (t135 = true) (fun c6 => ?qp12) (fun c6 => ?qn12)
   case' qp12 =>
    subst c6
    have H1 : (if a0_5 = true then ((spec_shWide.f k a0_0 a0_1 a0_2 a0_3 a0_4 a0_5).bind fun t136 => (some t136)) else (some true)) = some r := by rw [if_pos rfl] at H; exact H
    clear H
    have H := H1
    clear H1
    refine dite (a0_5 = true) (fun c7 => ?qp13) (fun c7 => ?qn13)
    case' qp13 =>
     subst c7
     have H1 : ((spec_shWide.f k a0_0 a0_1 a0_2 a0_3 a0_4 true).bind fun t136 => (some t136)) = some r := by rw [if_pos rfl] at H; exact H
     clear H
     have H := H1
     clear H1
     replace H := Option.bind_eq_some_iff.mp H
     obtain ⟨t136, A80, H⟩ := H
     replace H : (some t136) = some r := H
     have A8 := Aside0.mk A80
     clear A80
    case' qn13 =>
     replace c7 := Bool.eq_false_iff.mpr c7
     subst c7
     have H1 : (some true) = some r := by rw [if_neg (show ¬ (false = true) by decide)] at H; exact H
     clear H
     have H := H1
     clear H1
   case' qn12 =>
    replace c6 := Bool.eq_false_iff.mpr c6
    subst c6
    have H1 : (some false) = some r := by rw [if_neg (show ¬ (false = true) by decide)] at H; exact H
    clear H
    have H := H1
    clear H1
  case' qn11 =>
   replace c3 := Bool.eq_false_iff.mpr c3
   subst c3
   have H1 : (some false) = some r := by rw [if_neg (show ¬ (false = true) by decide)] at H; exact H
   clear H
   have H := H1
   clear H1
  all_goals
   obtain rfl := Option.some.inj H
   go_enter Try.func47, Try.ntmps47
   go_wp2_with (first | ((with_reducible refine gate_dst (N := 1) rfl ?_); refine box_event ?hg (N := 1) ?hd (cs := #[.int .i64 a0_0, .int .i64 a0_1, .int .i64 a0_2, .int .i64 a0_3, .int .i64 a0_4, .bool a0_5]) (t := 25) ?hr ?_; (case hd => rfl); (case hg => rfl); (case hr => first | (go_simp; done) | (go_simp; rfl)); intro gbx0 hg wx0 hbox hb; have n0_ := Aside0.mk (below_step (by repeat (first | (with_reducible first | exact HB.out | apply below_alloc | apply pw_below_drewN | apply below_drew1) | exact HB.out)) hb); have n1_ := Aside0.mk (hbox); have n2_ := Aside0.mk ((by rw [hg]; exact (below_size (by repeat (first | (with_reducible first | exact HB.out | apply below_alloc | apply pw_below_drewN | apply below_drew1) | exact HB.out))) : w.heap.size ≤ gbx0)); have n3_ := Aside0.mk ((by rw [hg]; exact (below_size (by repeat (first | (with_reducible first | exact HB.out | apply below_alloc | apply pw_below_drewN | apply below_drew1) | exact HB.out))) : w.heap.size ≤ gbx0)); clear HB; have HB := n0_; have BKx0 := n1_; have GWx0 := n2_; have GEx0 := n3_; clear n0_ n1_ n2_ n3_; clear hb hbox hg; have hczx0_0 : wx0.cell? ⟨gbx0, 0, none⟩ = some (.int .i64 a0_0) := (blk_cell BKx0.out 0).trans rfl; have hczx0_1 : wx0.cell? ⟨gbx0, 1, none⟩ = some (.int .i64 a0_1) := (blk_cell BKx0.out 1).trans rfl; have hczx0_2 : wx0.cell? ⟨gbx0, 2, none⟩ = some (.int .i64 a0_2) := (blk_cell BKx0.out 2).trans rfl; have hczx0_3 : wx0.cell? ⟨gbx0, 3, none⟩ = some (.int .i64 a0_3) := (blk_cell BKx0.out 3).trans rfl; have hczx0_4 : wx0.cell? ⟨gbx0, 4, none⟩ = some (.int .i64 a0_4) := (blk_cell BKx0.out 4).trans rfl; have hczx0_5 : wx0.cell? ⟨gbx0, 5, none⟩ = some (.bool a0_5) := (blk_cell BKx0.out 5).trans rfl; have hfzx0_0 := blk_frozen BKx0.out 0; have hfzx0_1 := blk_frozen BKx0.out 1; have hfzx0_2 := blk_frozen BKx0.out 2; have hfzx0_3 := blk_frozen BKx0.out 3; have hfzx0_4 := blk_frozen BKx0.out 4; have hfzx0_5 := blk_frozen BKx0.out 5) | ((with_reducible refine gate_dst (N := 1) rfl ?_); refine box_event ?hg (N := 1) ?hd (cs := #[.int .i64 a0_0, .int .i64 a0_1, .int .i64 a0_2, .int .i64 a0_3, .int .i64 a0_4, .bool false]) (t := 25) ?hr ?_; (case hd => rfl); (case hg => rfl); (case hr => first | (go_simp; done) | (go_simp; rfl)); intro gbx0 hg wx0 hbox hb; have n0_ := Aside0.mk (below_step (by repeat (first | (with_reducible first | exact HB.out | apply below_alloc | apply pw_below_drewN | apply below_drew1) | exact HB.out)) hb); have n1_ := Aside0.mk (hbox); have n2_ := Aside0.mk ((by rw [hg]; exact (below_size (by repeat (first | (with_reducible first | exact HB.out | apply below_alloc | apply pw_below_drewN | apply below_drew1) | exact HB.out))) : w.heap.size ≤ gbx0)); have n3_ := Aside0.mk ((by rw [hg]; exact (below_size (by repeat (first | (with_reducible first | exact HB.out | apply below_alloc | apply pw_below_drewN | apply below_drew1) | exact HB.out))) : w.heap.size ≤ gbx0)); clear HB; have HB := n0_; have BKx0 := n1_; have GWx0 := n2_; have GEx0 := n3_; clear n0_ n1_ n2_ n3_; clear hb hbox hg; have hczx0_0 : wx0.cell? ⟨gbx0, 0, none⟩ = some (.int .i64 a0_0) := (blk_cell BKx0.out 0).trans rfl; have hczx0_1 : wx0.cell? ⟨gbx0, 1, none⟩ = some (.int .i64 a0_1) := (blk_cell BKx0.out 1).trans rfl; have hczx0_2 : wx0.cell? ⟨gbx0, 2, none⟩ = some (.int .i64 a0_2) := (blk_cell BKx0.out 2).trans rfl; have hczx0_3 : wx0.cell? ⟨gbx0, 3, none⟩ = some (.int .i64 a0_3) := (blk_cell BKx0.out 3).trans rfl; have hczx0_4 : wx0.cell? ⟨gbx0, 4, none⟩ = some (.int .i64 a0_4) := (blk_cell BKx0.out 4).trans rfl; have hczx0_5 : wx0.cell? ⟨gbx0, 5, none⟩ = some (.bool false) := (blk_cell BKx0.out 5).trans rfl; have hfzx0_0 := blk_frozen BKx0.out 0; have hfzx0_1 := blk_frozen BKx0.out 1; have hfzx0_2 := blk_frozen BKx0.out 2; have hfzx0_3 := blk_frozen BKx0.out 3; have hfzx0_4 := blk_frozen BKx0.out 4; have hfzx0_5 := blk_frozen BKx0.out 5) | ((with_reducible refine gate_dst (N := 1) rfl ?_); refine box_event ?hg (N := 1) ?hd (cs := #[.int .i64 a0_0, .int .i64 a0_1, .int .i64 a0_2, .int .i64 a0_3, .int .i64 a0_4, .bool true]) (t := 25) ?hr ?_; (case hd => rfl); (case hg => rfl); (case hr => first | (go_simp; done) | (go_simp; rfl)); intro gbx0 hg wx0 hbox hb; have n0_ := Aside0.mk (below_step (by repeat (first | (with_reducible first | exact HB.out | apply below_alloc | apply pw_below_drewN | apply below_drew1) | exact HB.out)) hb); have n1_ := Aside0.mk (hbox); have n2_ := Aside0.mk ((by rw [hg]; exact (below_size (by repeat (first | (with_reducible first | exact HB.out | apply below_alloc | apply pw_below_drewN | apply below_drew1) | exact HB.out))) : w.heap.size ≤ gbx0)); have n3_ := Aside0.mk ((by rw [hg]; exact (below_size (by repeat (first | (with_reducible first | exact HB.out | apply below_alloc | apply pw_below_drewN | apply below_drew1) | exact HB.out))) : w.heap.size ≤ gbx0)); clear HB; have HB := n0_; have BKx0 := n1_; have GWx0 := n2_; have GEx0 := n3_; clear n0_ n1_ n2_ n3_; clear hb hbox hg; have hczx0_0 : wx0.cell? ⟨gbx0, 0, none⟩ = some (.int .i64 a0_0) := (blk_cell BKx0.out 0).trans rfl; have hczx0_1 : wx0.cell? ⟨gbx0, 1, none⟩ = some (.int .i64 a0_1) := (blk_cell BKx0.out 1).trans rfl; have hczx0_2 : wx0.cell? ⟨gbx0, 2, none⟩ = some (.int .i64 a0_2) := (blk_cell BKx0.out 2).trans rfl; have hczx0_3 : wx0.cell? ⟨gbx0, 3, none⟩ = some (.int .i64 a0_3) := (blk_cell BKx0.out 3).trans rfl; have hczx0_4 : wx0.cell? ⟨gbx0, 4, none⟩ = some (.int .i64 a0_4) := (blk_cell BKx0.out 4).trans rfl; have hczx0_5 : wx0.cell? ⟨gbx0, 5, none⟩ = some (.bool true) := (blk_cell BKx0.out 5).trans rfl; have hfzx0_0 := blk_frozen BKx0.out 0; have hfzx0_1 := blk_frozen BKx0.out 1; have hfzx0_2 := blk_frozen BKx0.out 2; have hfzx0_3 := blk_frozen BKx0.out 3; have hfzx0_4 := blk_frozen BKx0.out 4; have hfzx0_5 := blk_frozen BKx0.out 5) | ((with_reducible refine gate_callee (f := 62) rfl ?_); refine goesL_ (some 5) rfl rfl Try.func62 (by kernel_rfl) rfl #[.int .i64 a0_0, .int .i64 0, .int .i64 2] rfl (by (try simp only [List.map_toArray, List.map_cons, List.map_nil]); first | done | rfl | (simp only [List.length_drop, List.length_take]; rfl)) ?_; (with_reducible refine (spec_l1In.calls a0_0 0 2 _ _ A2.out).mono ?_); rintro e w' ⟨rfl, ⟨nd, rfl⟩⟩; refine ⟨_, rfl, ?_⟩) | (go_at_call 51; (with_reducible refine (spec_shFingers.calls a0_0 a0_1 a0_2 a0_3 a0_4 a0_5 _ _ A4.out).mono ?_); rintro e wx1 ⟨vx1, rfl, hox2, hb⟩; have n0_ := Aside0.mk (Kd.R_lower hox2 (below_size (by repeat (first | (with_reducible first | exact HB.out | apply below_alloc | apply pw_below_drewN | apply below_drew1 | refine below_set ?_ GEx0.out) | exact HB.out)))); have n1_ := Aside0.mk (blk_below (g := gbx0) (o := .cells #[.int .i64 a0_0, .int .i64 a0_1, .int .i64 a0_2, .int .i64 a0_3, .int .i64 a0_4, .bool a0_5] 25 (0, 0)) (by (with_reducible repeat (first | refine blk_drewN ?_ _ | refine blk_drew ?_ | refine blk_alloc ?_ _)); exact BKx0.out) hb); have n2_ := Aside0.mk (below_step (by repeat (first | (with_reducible first | exact HB.out | apply below_alloc | apply pw_below_drewN | apply below_drew1 | refine below_set ?_ GEx0.out) | exact HB.out)) hb); clear BKx0; clear HB; have HOx3 := n0_; have BKx0 := n1_; have HB := n2_; clear n0_ n1_ n2_; (try clear hb); (try clear hb2); (try clear hk); (try clear hi); (try clear hox2); obtain ⟨Aox4, cox4, eox4⟩ := Kd.R_slice HOx3.out; subst eox4) | (go_at_call 76; (with_reducible refine (spec_l1All.calls k _ _ t132 0 2 false _ ?side1 ?side2 A5.out).mono ?_); (case side1 => repeat (first | exact (Kd.R_reads' HOx3.out).2.2 | (with_reducible refine Kd.C_alloc ?_ _) | (with_reducible refine Kd.C_drewN ?_ _) | (with_reducible refine Kd.C_drew ?_))); (case side2 => exact (Kd.R_reads' HOx3.out).2.1); rintro e w' ⟨rfl, ⟨nd, rfl⟩⟩) | (go_at_call 51; (with_reducible refine (spec_shFingers.calls a0_0 a0_1 a0_2 a0_3 a0_4 false _ _ A4.out).mono ?_); rintro e wx1 ⟨vx1, rfl, hox2, hb⟩; have n0_ := Aside0.mk (Kd.R_lower hox2 (below_size (by repeat (first | (with_reducible first | exact HB.out | apply below_alloc | apply pw_below_drewN | apply below_drew1 | refine below_set ?_ GEx0.out) | exact HB.out)))); have n1_ := Aside0.mk (blk_below (g := gbx0) (o := .cells #[.int .i64 a0_0, .int .i64 a0_1, .int .i64 a0_2, .int .i64 a0_3, .int .i64 a0_4, .bool false] 25 (0, 0)) (by (with_reducible repeat (first | refine blk_drewN ?_ _ | refine blk_drew ?_ | refine blk_alloc ?_ _)); exact BKx0.out) hb); have n2_ := Aside0.mk (below_step (by repeat (first | (with_reducible first | exact HB.out | apply below_alloc | apply pw_below_drewN | apply below_drew1 | refine below_set ?_ GEx0.out) | exact HB.out)) hb); clear BKx0; clear HB; have HOx3 := n0_; have BKx0 := n1_; have HB := n2_; clear n0_ n1_ n2_; (try clear hb); (try clear hb2); (try clear hk); (try clear hi); (try clear hox2); obtain ⟨Aox4, cox4, eox4⟩ := Kd.R_slice HOx3.out; subst eox4) | (go_at_call 76; (with_reducible refine (spec_l1All.calls k _ _ t132 0 2 true _ ?side1 ?side2 A5.out).mono ?_); (case side1 => repeat (first | exact (Kd.R_reads' HOx3.out).2.2 | (with_reducible refine Kd.C_alloc ?_ _) | (with_reducible refine Kd.C_drewN ?_ _) | (with_reducible refine Kd.C_drew ?_))); (case side2 => exact (Kd.R_reads' HOx3.out).2.1); rintro e w' ⟨rfl, ⟨nd, rfl⟩⟩; have hczx5_0 : wx1.cell? ⟨gbx0, 0, none⟩ = some (.int .i64 a0_0) := (blk_cell BKx0.out 0).trans rfl; have hczx5_1 : wx1.cell? ⟨gbx0, 1, none⟩ = some (.int .i64 a0_1) := (blk_cell BKx0.out 1).trans rfl; have hczx5_2 : wx1.cell? ⟨gbx0, 2, none⟩ = some (.int .i64 a0_2) := (blk_cell BKx0.out 2).trans rfl; have hczx5_3 : wx1.cell? ⟨gbx0, 3, none⟩ = some (.int .i64 a0_3) := (blk_cell BKx0.out 3).trans rfl; have hczx5_4 : wx1.cell? ⟨gbx0, 4, none⟩ = some (.int .i64 a0_4) := (blk_cell BKx0.out 4).trans rfl; have hczx5_5 : wx1.cell? ⟨gbx0, 5, none⟩ = some (.bool false) := (blk_cell BKx0.out 5).trans rfl; have hfzx5_0 := blk_frozen BKx0.out 0; have hfzx5_1 := blk_frozen BKx0.out 1; have hfzx5_2 := blk_frozen BKx0.out 2; have hfzx5_3 := blk_frozen BKx0.out 3; have hfzx5_4 := blk_frozen BKx0.out 4; have hfzx5_5 := blk_frozen BKx0.out 5) | (go_at_call 51; (with_reducible refine (spec_shFingers.calls a0_0 a0_1 a0_2 a0_3 a0_4 true _ _ A4.out).mono ?_); rintro e wx1 ⟨vx1, rfl, hox2, hb⟩; have n0_ := Aside0.mk (Kd.R_lower hox2 (below_size (by repeat (first | (with_reducible first | exact HB.out | apply below_alloc | apply pw_below_drewN | apply below_drew1 | refine below_set ?_ GEx0.out) | exact HB.out)))); have n1_ := Aside0.mk (blk_below (g := gbx0) (o := .cells #[.int .i64 a0_0, .int .i64 a0_1, .int .i64 a0_2, .int .i64 a0_3, .int .i64 a0_4, .bool true] 25 (0, 0)) (by (with_reducible repeat (first | refine blk_drewN ?_ _ | refine blk_drew ?_ | refine blk_alloc ?_ _)); exact BKx0.out) hb); have n2_ := Aside0.mk (below_step (by repeat (first | (with_reducible first | exact HB.out | apply below_alloc | apply pw_below_drewN | apply below_drew1 | refine below_set ?_ GEx0.out) | exact HB.out)) hb); clear BKx0; clear HB; have HOx3 := n0_; have BKx0 := n1_; have HB := n2_; clear n0_ n1_ n2_; (try clear hb); (try clear hb2); (try clear hk); (try clear hi); (try clear hox2); obtain ⟨Aox4, cox4, eox4⟩ := Kd.R_slice HOx3.out; subst eox4) | (go_at_call 76; (with_reducible refine (spec_l1All.calls k _ _ t132 0 2 true _ ?side1 ?side2 A5.out).mono ?_); (case side1 => repeat (first | exact (Kd.R_reads' HOx3.out).2.2 | (with_reducible refine Kd.C_alloc ?_ _) | (with_reducible refine Kd.C_drewN ?_ _) | (with_reducible refine Kd.C_drew ?_))); (case side2 => exact (Kd.R_reads' HOx3.out).2.1); rintro e w' ⟨rfl, ⟨nd, rfl⟩⟩; have hczx5_0 : wx1.cell? ⟨gbx0, 0, none⟩ = some (.int .i64 a0_0) := (blk_cell BKx0.out 0).trans rfl; have hczx5_1 : wx1.cell? ⟨gbx0, 1, none⟩ = some (.int .i64 a0_1) := (blk_cell BKx0.out 1).trans rfl; have hczx5_2 : wx1.cell? ⟨gbx0, 2, none⟩ = some (.int .i64 a0_2) := (blk_cell BKx0.out 2).trans rfl; have hczx5_3 : wx1.cell? ⟨gbx0, 3, none⟩ = some (.int .i64 a0_3) := (blk_cell BKx0.out 3).trans rfl; have hczx5_4 : wx1.cell? ⟨gbx0, 4, none⟩ = some (.int .i64 a0_4) := (blk_cell BKx0.out 4).trans rfl; have hczx5_5 : wx1.cell? ⟨gbx0, 5, none⟩ = some (.bool true) := (blk_cell BKx0.out 5).trans rfl; have hfzx5_0 := blk_frozen BKx0.out 0; have hfzx5_1 := blk_frozen BKx0.out 1; have hfzx5_2 := blk_frozen BKx0.out 2; have hfzx5_3 := blk_frozen BKx0.out 3; have hfzx5_4 := blk_frozen BKx0.out 4; have hfzx5_5 := blk_frozen BKx0.out 5) | (go_at_call 77; (with_reducible refine (spec_shWide.calls k a0_0 a0_1 a0_2 a0_3 a0_4 true _ _ A8.out).mono ?_); rintro e wx2 ⟨rfl, hb⟩; have n0_ := Aside0.mk (Kd.R_below (by (with_reducible repeat (first | apply Kd.R_alloc | apply Kd.R_drewN | apply Kd.R_drew)); exact HOx3.out) hb); have n1_ := Aside0.mk (blk_below (g := gbx0) (o := .cells #[.int .i64 a0_0, .int .i64 a0_1, .int .i64 a0_2, .int .i64 a0_3, .int .i64 a0_4, .bool true] 25 (0, 0)) (by (with_reducible repeat (first | refine blk_drewN ?_ _ | refine blk_drew ?_ | refine blk_alloc ?_ _)); exact BKx0.out) hb); have n2_ := Aside0.mk (below_step (by repeat (first | (with_reducible first | exact HB.out | apply below_alloc | apply pw_below_drewN | apply below_drew1 | refine below_set ?_ GEx0.out) | exact HB.out)) hb); clear HOx3; clear BKx0; clear HB; have HOx3 := n0_; have BKx0 := n1_; have HB := n2_; clear n0_ n1_ n2_; (try clear hb); (try clear hb2); (try clear hk); (try clear hi)))
  · go_ret
    exact ⟨by first | rfl | (simp [errW_none, errW_some] <;> rfl) | (simp [*, errW_none, errW_some] <;> rfl), by repeat (first | (with_reducible first | exact HB.out | apply below_alloc | apply pw_below_drewN | apply below_drew1 | refine below_set ?_ GEx0.out) | exact HB.out)⟩
  · go_ret
    exact ⟨by first | rfl | (simp [errW_none, errW_some] <;> rfl) | (simp [*, errW_none, errW_some] <;> rfl), by repeat (first | (with_reducible first | exact HB.out | apply below_alloc | apply pw_below_drewN | apply below_drew1 | refine below_set ?_ GEx0.out) | exact HB.out)⟩
  · go_ret
    exact ⟨by first | rfl | (simp [errW_none, errW_some] <;> rfl) | (simp [*, errW_none, errW_some] <;> rfl), by repeat (first | (with_reducible first | exact HB.out | apply below_alloc | apply pw_below_drewN | apply below_drew1 | refine below_set ?_ GEx0.out) | exact HB.out)⟩
  · go_ret
    exact ⟨by first | rfl | (simp [errW_none, errW_some] <;> rfl) | (simp [*, errW_none, errW_some] <;> rfl), by repeat (first | (with_reducible first | exact HB.out | apply below_alloc | apply pw_below_drewN | apply below_drew1 | refine below_set ?_ GEx0.out) | exact HB.out)⟩

end Go.Proofs.Ytaecjbhenknfkaa.FD
