-- laid by pr.py (wip/tools) over the kit's printer; Lean checks it
import Derived.Test.YtaecjbhenknfkaaFBx0
namespace Go.Proofs.Ytaecjbhenknfkaa.FB
open Go.RowKit Go.Proofs.YtaecjbhenknfkaaW.PrintWords Go.Proofs.YtaecjbhenknfkaaW.PrintLast Go.Proofs.YtaecjbhenknfkaaW.PrintMore
attribute [local go_sem] max2_int min2_int max_two min_two max_three min_three max_four min_four   -- for this text's walks alone
set_option linter.unusedVariables false
set_option linter.unusedSimpArgs false

/-! ### laws_eqShape: function 25 -/
def laws_eqShape.f (a0_0 : Int) (a0_1 : Int) (a0_2 : Int) (a0_3 : Int) (a0_4 : Int) (a0_5 : Bool) (a1_0 : Int) (a1_1 : Int) (a1_2 : Int) (a1_3 : Int) (a1_4 : Int) (a1_5 : Bool) : Option (Bool) := if a0_0 = a1_0 then (if a0_1 = a1_1 then (if a0_2 = a1_2 then (if a0_3 = a1_3 then (if a0_4 = a1_4 then (if (a0_5 != a1_5) = true then (some false) else (some true)) else (some false)) else (some false)) else (some false)) else (some false)) else (some false)
set_option maxHeartbeats 8000000 in
set_option maxRecDepth 100000 in
theorem laws_eqShape.calls (a0_0 : Int) (a0_1 : Int) (a0_2 : Int) (a0_3 : Int) (a0_4 : Int) (a0_5 : Bool) (a1_0 : Int) (a1_1 : Int) (a1_2 : Int) (a1_3 : Int) (a1_4 : Int) (a1_5 : Bool) (r : Bool) (w : World) (h : laws_eqShape.f a0_0 a0_1 a0_2 a0_3 a0_4 a0_5 a1_0 a1_1 a1_2 a1_3 a1_4 a1_5 = some r) :
    Calls Try.prog 25 #[.agg #[.int .i64 a0_0, .int .i64 a0_1, .int .i64 a0_2, .int .i64 a0_3, .int .i64 a0_4, .bool a0_5], .agg #[.int .i64 a1_0, .int .i64 a1_1, .int .i64 a1_2, .int .i64 a1_3, .int .i64 a1_4, .bool a1_5]] w fun e w' => e = .returned (.bool r) ∧ Below w.heap.size w w' := by
  have hu25 := Try.underlying25
  have HB := Aside0.mk (Below.refl w.heap.size w)
  have H : (if a0_0 = a1_0 then (if a0_1 = a1_1 then (if a0_2 = a1_2 then (if a0_3 = a1_3 then (if a0_4 = a1_4 then (if (a0_5 != a1_5) = true then (some false) else (some true)) else (some false)) else (some false)) else (some false)) else (some false)) else (some false)) = some r := h
  clear h
  refine dite (a0_0 = a1_0) (fun c3 => ?qp1) (fun c3 => ?qn1)
  case' qp1 =>
   rw [if_pos c3] at H
   have c3b0 : (a0_0 == a1_0) = true := beq_iff_eq.mpr c3
   have c3b1 : (a0_0 != a1_0) = false := bne_eq_false_iff_eq.mpr c3
   clear c3
   refine dite (a0_1 = a1_1) (fun c4 => ?qp2) (fun c4 => ?qn2)
   case' qp2 =>
    rw [if_pos c4] at H
    have c4b0 : (a0_1 == a1_1) = true := beq_iff_eq.mpr c4
    have c4b1 : (a0_1 != a1_1) = false := bne_eq_false_iff_eq.mpr c4
    clear c4
    refine dite (a0_2 = a1_2) (fun c5 => ?qp3) (fun c5 => ?qn3)
    case' qp3 =>
     rw [if_pos c5] at H
     have c5b0 : (a0_2 == a1_2) = true := beq_iff_eq.mpr c5
     have c5b1 : (a0_2 != a1_2) = false := bne_eq_false_iff_eq.mpr c5
     clear c5
     refine dite (a0_3 = a1_3) (fun c6 => ?qp4) (fun c6 => ?qn4)
     case' qp4 =>
      rw [if_pos c6] at H
      have c6b0 : (a0_3 == a1_3) = true := beq_iff_eq.mpr c6
      have c6b1 : (a0_3 != a1_3) = false := bne_eq_false_iff_eq.mpr c6
      clear c6
      refine dite (a0_4 = a1_4) (fun c7 => ?qp5) (fun c7 => ?qn5)
      case' qp5 =>
       rw [if_pos c7] at H
       have c7b0 : (a0_4 == a1_4) = true := beq_iff_eq.mpr c7
       have c7b1 : (a0_4 != a1_4) = false := bne_eq_false_iff_eq.mpr c7
       clear c7
       refine dite ((a0_5 != a1_5) = true) (fun c8 => ?qp6) (fun c8 => ?qn6)
       case' qp6 =>
        rw [if_pos c8] at H
        have c8b0 : (a0_5 != a1_5) = true := c8
        (try (have c8b1 : decide (a0_5 = a1_5) = false := by simpa using c8))
        (try (have c8b2 : (a0_5 == a1_5) = false := by simpa using c8))
        (try (have c8b3 : ¬ (a0_5 = a1_5) := by simpa using c8))
        clear c8
       case' qn6 =>
        rw [if_neg c8] at H
        have c8b0 : (a0_5 != a1_5) = false := by simpa using c8
        (try (have c8b1 : decide (a0_5 = a1_5) = true := by simpa using c8))
        (try (have c8b2 : (a0_5 == a1_5) = true := by simpa using c8))
        clear c8
      case' qn5 =>
       rw [if_neg c7] at H
       have c7b0 : (a0_4 == a1_4) = false := beq_eq_false_iff_ne.mpr c7
       have c7b1 : (a0_4 != a1_4) = true := bne_iff_ne.mpr c7
     case' qn4 =>
      rw [if_neg c6] at H
      have c6b0 : (a0_3 == a1_3) = false := beq_eq_false_iff_ne.mpr c6
      have c6b1 : (a0_3 != a1_3) = true := bne_iff_ne.mpr c6
    case' qn3 =>
     rw [if_neg c5] at H
     have c5b0 : (a0_2 == a1_2) = false := beq_eq_false_iff_ne.mpr c5
     have c5b1 : (a0_2 != a1_2) = true := bne_iff_ne.mpr c5
   case' qn2 =>
    rw [if_neg c4] at H
    have c4b0 : (a0_1 == a1_1) = false := beq_eq_false_iff_ne.mpr c4
    have c4b1 : (a0_1 != a1_1) = true := bne_iff_ne.mpr c4
  case' qn1 =>
   rw [if_neg c3] at H
   have c3b0 : (a0_0 == a1_0) = false := beq_eq_false_iff_ne.mpr c3
   have c3b1 : (a0_0 != a1_0) = true := bne_iff_ne.mpr c3
  all_goals
   obtain rfl := Option.some.inj H
   go_enter Try.func25, Try.ntmps25
   go_wp2_with (first | ((with_reducible refine gate_dst (N := 2) rfl ?_); refine box_event ?hg (N := 2) ?hd (cs := #[.int .i64 a0_0, .int .i64 a0_1, .int .i64 a0_2, .int .i64 a0_3, .int .i64 a0_4, .bool a0_5]) (t := 25) ?hr ?_; (case hd => rfl); (case hg => rfl); (case hr => first | (go_simp; done) | (go_simp; rfl)); intro gbx0 hg wx0 hbox hb; have n0_ := Aside0.mk (below_step (by repeat (first | (with_reducible first | exact HB.out | apply below_alloc | apply pw_below_drewN | apply below_drew1) | exact HB.out)) hb); have n1_ := Aside0.mk (hbox); have n2_ := Aside0.mk ((by rw [hg]; exact (below_size (by repeat (first | (with_reducible first | exact HB.out | apply below_alloc | apply pw_below_drewN | apply below_drew1) | exact HB.out))) : w.heap.size ≤ gbx0)); have n3_ := Aside0.mk ((by rw [hg]; exact (below_size (by repeat (first | (with_reducible first | exact HB.out | apply below_alloc | apply pw_below_drewN | apply below_drew1) | exact HB.out))) : w.heap.size ≤ gbx0)); clear HB; have HB := n0_; have BKx0 := n1_; have GWx0 := n2_; have GEx0 := n3_; clear n0_ n1_ n2_ n3_; clear hb hbox hg) | ((with_reducible refine gate_dst (N := 3) rfl ?_); refine box_event ?hg (N := 3) ?hd (cs := #[.int .i64 a1_0, .int .i64 a1_1, .int .i64 a1_2, .int .i64 a1_3, .int .i64 a1_4, .bool a1_5]) (t := 25) ?hr ?_; (case hd => rfl); (case hg => rfl); (case hr => first | (go_simp; done) | (go_simp; rfl)); intro gbx1 hg wx1 hbox hb; have n0_ := Aside0.mk (blk_below (g := gbx0) (o := .cells #[.int .i64 a0_0, .int .i64 a0_1, .int .i64 a0_2, .int .i64 a0_3, .int .i64 a0_4, .bool a0_5] 25 (0, 0)) (by (with_reducible repeat (first | refine blk_drewN ?_ _ | refine blk_drew ?_ | refine blk_alloc ?_ _)); exact BKx0.out) hb); have n1_ := Aside0.mk (below_step (by repeat (first | (with_reducible first | exact HB.out | apply below_alloc | apply pw_below_drewN | apply below_drew1 | refine below_set ?_ GEx0.out) | exact HB.out)) hb); have n2_ := Aside0.mk (hbox); have n3_ := Aside0.mk ((by rw [hg]; exact (below_size (by repeat (first | (with_reducible first | exact HB.out | apply below_alloc | apply pw_below_drewN | apply below_drew1 | refine below_set ?_ GEx0.out) | exact HB.out))) : w.heap.size ≤ gbx1)); have n4_ := Aside0.mk ((by rw [hg]; exact (below_size (by repeat (first | (with_reducible first | exact HB.out | apply below_alloc | apply pw_below_drewN | apply below_drew1 | refine below_set ?_ GEx0.out) | exact HB.out))) : w.heap.size ≤ gbx1)); have n5_ := Aside0.mk ((by rw [hg]; exact Nat.ne_of_lt (blk_lt (g := gbx0) (o := .cells #[.int .i64 a0_0, .int .i64 a0_1, .int .i64 a0_2, .int .i64 a0_3, .int .i64 a0_4, .bool a0_5] 25 (0, 0)) (by (with_reducible repeat (first | refine blk_drewN ?_ _ | refine blk_drew ?_ | refine blk_alloc ?_ _)); exact BKx0.out)) : gbx0 ≠ gbx1)); have n6_ := Aside0.mk ((by rw [hg]; exact Nat.ne_of_gt (blk_lt (g := gbx0) (o := .cells #[.int .i64 a0_0, .int .i64 a0_1, .int .i64 a0_2, .int .i64 a0_3, .int .i64 a0_4, .bool a0_5] 25 (0, 0)) (by (with_reducible repeat (first | refine blk_drewN ?_ _ | refine blk_drew ?_ | refine blk_alloc ?_ _)); exact BKx0.out)) : gbx1 ≠ gbx0)); clear BKx0; clear HB; have BKx0 := n0_; have HB := n1_; have BKx1 := n2_; have GWx1 := n3_; have GEx1 := n4_; have NBx0_105 := n5_; have NBx1_104 := n6_; clear n0_ n1_ n2_ n3_ n4_ n5_ n6_; clear hb hbox hg; have hnbx0 := NBx0_105.out; have hncx0 := NBx1_104.out; have hczx1_0 : wx1.cell? ⟨gbx0, 0, none⟩ = some (.int .i64 a0_0) := (blk_cell BKx0.out 0).trans rfl; have hczx1_1 : wx1.cell? ⟨gbx0, 1, none⟩ = some (.int .i64 a0_1) := (blk_cell BKx0.out 1).trans rfl; have hczx1_2 : wx1.cell? ⟨gbx0, 2, none⟩ = some (.int .i64 a0_2) := (blk_cell BKx0.out 2).trans rfl; have hczx1_3 : wx1.cell? ⟨gbx0, 3, none⟩ = some (.int .i64 a0_3) := (blk_cell BKx0.out 3).trans rfl; have hczx1_4 : wx1.cell? ⟨gbx0, 4, none⟩ = some (.int .i64 a0_4) := (blk_cell BKx0.out 4).trans rfl; have hczx1_5 : wx1.cell? ⟨gbx0, 5, none⟩ = some (.bool a0_5) := (blk_cell BKx0.out 5).trans rfl; have hfzx1_0 := blk_frozen BKx0.out 0; have hfzx1_1 := blk_frozen BKx0.out 1; have hfzx1_2 := blk_frozen BKx0.out 2; have hfzx1_3 := blk_frozen BKx0.out 3; have hfzx1_4 := blk_frozen BKx0.out 4; have hfzx1_5 := blk_frozen BKx0.out 5; have hczx2_0 : wx1.cell? ⟨gbx1, 0, none⟩ = some (.int .i64 a1_0) := (blk_cell BKx1.out 0).trans rfl; have hczx2_1 : wx1.cell? ⟨gbx1, 1, none⟩ = some (.int .i64 a1_1) := (blk_cell BKx1.out 1).trans rfl; have hczx2_2 : wx1.cell? ⟨gbx1, 2, none⟩ = some (.int .i64 a1_2) := (blk_cell BKx1.out 2).trans rfl; have hczx2_3 : wx1.cell? ⟨gbx1, 3, none⟩ = some (.int .i64 a1_3) := (blk_cell BKx1.out 3).trans rfl; have hczx2_4 : wx1.cell? ⟨gbx1, 4, none⟩ = some (.int .i64 a1_4) := (blk_cell BKx1.out 4).trans rfl; have hczx2_5 : wx1.cell? ⟨gbx1, 5, none⟩ = some (.bool a1_5) := (blk_cell BKx1.out 5).trans rfl; have hfzx2_0 := blk_frozen BKx1.out 0; have hfzx2_1 := blk_frozen BKx1.out 1; have hfzx2_2 := blk_frozen BKx1.out 2; have hfzx2_3 := blk_frozen BKx1.out 3; have hfzx2_4 := blk_frozen BKx1.out 4; have hfzx2_5 := blk_frozen BKx1.out 5))
  · go_ret
    exact ⟨by first | rfl | (simp [errW_none, errW_some] <;> rfl) | (simp [*, errW_none, errW_some] <;> rfl), by repeat (first | (with_reducible first | exact HB.out | apply below_alloc | apply pw_below_drewN | apply below_drew1 | refine below_set ?_ GEx0.out | refine below_set ?_ GEx1.out) | exact HB.out)⟩
  · go_ret
    exact ⟨by first | rfl | (simp [errW_none, errW_some] <;> rfl) | (simp [*, errW_none, errW_some] <;> rfl), by repeat (first | (with_reducible first | exact HB.out | apply below_alloc | apply pw_below_drewN | apply below_drew1 | refine below_set ?_ GEx0.out | refine below_set ?_ GEx1.out) | exact HB.out)⟩
  · go_ret
    exact ⟨by first | rfl | (simp [errW_none, errW_some] <;> rfl) | (simp [*, errW_none, errW_some] <;> rfl), by repeat (first | (with_reducible first | exact HB.out | apply below_alloc | apply pw_below_drewN | apply below_drew1 | refine below_set ?_ GEx0.out | refine below_set ?_ GEx1.out) | exact HB.out)⟩
  · go_ret
    exact ⟨by first | rfl | (simp [errW_none, errW_some] <;> rfl) | (simp [*, errW_none, errW_some] <;> rfl), by repeat (first | (with_reducible first | exact HB.out | apply below_alloc | apply pw_below_drewN | apply below_drew1 | refine below_set ?_ GEx0.out | refine below_set ?_ GEx1.out) | exact HB.out)⟩
  · go_ret
    exact ⟨by first | rfl | (simp [errW_none, errW_some] <;> rfl) | (simp [*, errW_none, errW_some] <;> rfl), by repeat (first | (with_reducible first | exact HB.out | apply below_alloc | apply pw_below_drewN | apply below_drew1 | refine below_set ?_ GEx0.out | refine below_set ?_ GEx1.out) | exact HB.out)⟩
  · go_ret
    exact ⟨by first | rfl | (simp [errW_none, errW_some] <;> rfl) | (simp [*, errW_none, errW_some] <;> rfl), by repeat (first | (with_reducible first | exact HB.out | apply below_alloc | apply pw_below_drewN | apply below_drew1 | refine below_set ?_ GEx0.out | refine below_set ?_ GEx1.out) | exact HB.out)⟩
  · go_ret
    exact ⟨by first | rfl | (simp [errW_none, errW_some] <;> rfl) | (simp [*, errW_none, errW_some] <;> rfl), by repeat (first | (with_reducible first | exact HB.out | apply below_alloc | apply pw_below_drewN | apply below_drew1 | refine below_set ?_ GEx0.out | refine below_set ?_ GEx1.out) | exact HB.out)⟩

end Go.Proofs.Ytaecjbhenknfkaa.FB
