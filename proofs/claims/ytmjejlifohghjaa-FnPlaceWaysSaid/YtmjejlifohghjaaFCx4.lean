-- laid by pr.py (wip/tools) over the kit's printer; Lean checks it
import Derived.Test.YtmjejlifohghjaaFCx0
import Derived.Test.YtmjejlifohghjaaFCx3
namespace Go.Proofs.Ytmjejlifohghjaa.FC
open Go.RowKit Go.Proofs.YtmjejlifohghjaaW.PrintWords Go.Proofs.YtmjejlifohghjaaW.PrintLast Go.Proofs.YtmjejlifohghjaaW.PrintMore
attribute [local go_sem] max2_int min2_int max_two min_two max_three min_three max_four min_four   -- for this text's walks alone
set_option linter.unusedVariables false
set_option linter.unusedSimpArgs false

/-! ### impl_PlaceDistance: function 23 -/
def impl_PlaceDistance.f (a0_0 : Int) (a0_1 : Int) (a0_2 : Bool) (a1_0 : Int) (a1_1 : Int) (a1_2 : Bool) : Option (Int × Bool) := (impl_IsPlace.f a0_0 a0_1 a0_2).bind fun t129 => (if t129 = true then ((impl_IsPlace.f a1_0 a1_1 a1_2).bind fun t130 => (if t130 = true then ((impl_Place_distance.f a0_0 a0_1 a0_2 a1_0 a1_1 a1_2).bind fun t131 => (some (t131, true))) else (some (0, false)))) else (some (0, false)))
set_option maxHeartbeats 8000000 in
set_option maxRecDepth 100000 in
theorem impl_PlaceDistance.calls (a0_0 : Int) (a0_1 : Int) (a0_2 : Bool) (a1_0 : Int) (a1_1 : Int) (a1_2 : Bool) (r1 : Int) (r2 : Bool) (w : World) (h : impl_PlaceDistance.f a0_0 a0_1 a0_2 a1_0 a1_1 a1_2 = some (r1, r2)) :
    Calls Try.prog 23 #[.agg #[.int .i64 a0_0, .int .i64 a0_1, .bool a0_2], .agg #[.int .i64 a1_0, .int .i64 a1_1, .bool a1_2]] w fun e w' => e = .returned (.tuple #[.int .i64 r1, .bool r2]) ∧ Below w.heap.size w w' := by
  have hu25 := Try.underlying25
  have HB := Aside0.mk (Below.refl w.heap.size w)
  have H : ((impl_IsPlace.f a0_0 a0_1 a0_2).bind fun t129 => (if t129 = true then ((impl_IsPlace.f a1_0 a1_1 a1_2).bind fun t130 => (if t130 = true then ((impl_Place_distance.f a0_0 a0_1 a0_2 a1_0 a1_1 a1_2).bind fun t131 => (some (t131, true))) else (some (0, false)))) else (some (0, false)))) = some (r1, r2) := h
  clear h
  replace H := Option.bind_eq_some_iff.mp H
  obtain ⟨t129, A30, H⟩ := H
  replace H : (if t129 = true then ((impl_IsPlace.f a1_0 a1_1 a1_2).bind fun t130 => (if t130 = true then ((impl_Place_distance.f a0_0 a0_1 a0_2 a1_0 a1_1 a1_2).bind fun t131 => (some (t131, true))) else (some (0, false)))) else (some (0, false))) = some (r1, r2) := H
  have A3 := Aside0.mk A30
  clear A30
  refine dite (t129 = true) (fun c4 => ?qp3) (fun c4 => ?qn3)
  case' qp3 =>
   subst c4
   have H1 : ((impl_IsPlace.f a1_0 a1_1 a1_2).bind fun t130 => (if t130 = true then ((impl_Place_distance.f a0_0 a0_1 a0_2 a1_0 a1_1 a1_2).bind fun t131 => (some (t131, true))) else (some (0, false)))) = some (r1, r2) := by rw [if_pos rfl] at H; exact H
   clear H
   have H := H1
   clear H1
   replace H := Option.bind_eq_some_iff.mp H
   obtain ⟨t130, A50, H⟩ := H
   replace H : (if t130 = true then ((impl_Place_distance.f a0_0 a0_1 a0_2 a1_0 a1_1 a1_2).bind fun t131 => (some (t131, true))) else (some (0, false))) = some (r1, r2) := H
   have A5 := Aside0.mk A50
   clear A50
   refine dite (t130 = true) (fun c6 => ?qp4) (fun c6 => ?qn4)
   case' qp4 =>
    subst c6
    have H1 : ((impl_Place_distance.f a0_0 a0_1 a0_2 a1_0 a1_1 a1_2).bind fun t131 => (some (t131, true))) = some (r1, r2) := by rw [if_pos rfl] at H; exact H
    clear H
    have H := H1
    clear H1
    replace H := Option.bind_eq_some_iff.mp H
    obtain ⟨t131, A70, H⟩ := H
    replace H : (some (t131, true)) = some (r1, r2) := H
    have A7 := Aside0.mk A70
    clear A70
   case' qn4 =>
    replace c6 := Bool.eq_false_iff.mpr c6
    subst c6
    have H1 : (some (0, false)) = some (r1, r2) := by rw [if_neg (show ¬ (false = true) by decide)] at H; exact H
    clear H
    have H := H1
    clear H1
  case' qn3 =>
   replace c4 := Bool.eq_false_iff.mpr c4
   subst c4
   have H1 : (some (0, false)) = some (r1, r2) := by rw [if_neg (show ¬ (false = true) by decide)] at H; exact H
   clear H
   have H := H1
   clear H1
  all_goals
   simp only [Option.some.injEq, Prod.mk.injEq] at H
   obtain ⟨rfl, rfl⟩ := H
   go_enter Try.func23, Try.ntmps23
   go_wp2_with (first | ((with_reducible refine gate_dst (N := 2) rfl ?_); refine box_event ?hg (N := 2) ?hd (cs := #[.int .i64 a0_0, .int .i64 a0_1, .bool a0_2]) (t := 25) ?hr ?_; (case hd => rfl); (case hg => rfl); (case hr => first | (go_simp; done) | (go_simp; rfl)); intro gbx0 hg wx0 hbox hb; have n0_ := Aside0.mk (below_step (by repeat (first | (with_reducible first | exact HB.out | apply below_alloc | apply pw_below_drewN | apply below_drew1) | exact HB.out)) hb); have n1_ := Aside0.mk (hbox); have n2_ := Aside0.mk ((by rw [hg]; exact (below_size (by repeat (first | (with_reducible first | exact HB.out | apply below_alloc | apply pw_below_drewN | apply below_drew1) | exact HB.out))) : w.heap.size ≤ gbx0)); have n3_ := Aside0.mk ((by rw [hg]; exact (below_size (by repeat (first | (with_reducible first | exact HB.out | apply below_alloc | apply pw_below_drewN | apply below_drew1) | exact HB.out))) : w.heap.size ≤ gbx0)); clear HB; have HB := n0_; have BKx0 := n1_; have GWx0 := n2_; have GEx0 := n3_; clear n0_ n1_ n2_ n3_; clear hb hbox hg) | ((with_reducible refine gate_dst (N := 3) rfl ?_); refine box_event ?hg (N := 3) ?hd (cs := #[.int .i64 a1_0, .int .i64 a1_1, .bool a1_2]) (t := 25) ?hr ?_; (case hd => rfl); (case hg => rfl); (case hr => first | (go_simp; done) | (go_simp; rfl)); intro gbx1 hg wx1 hbox hb; have n0_ := Aside0.mk (blk_below (g := gbx0) (o := .cells #[.int .i64 a0_0, .int .i64 a0_1, .bool a0_2] 25 (0, 0)) (by (with_reducible repeat (first | refine blk_drewN ?_ _ | refine blk_drew ?_ | refine blk_alloc ?_ _)); exact BKx0.out) hb); have n1_ := Aside0.mk (below_step (by repeat (first | (with_reducible first | exact HB.out | apply below_alloc | apply pw_below_drewN | apply below_drew1 | refine below_set ?_ GEx0.out) | exact HB.out)) hb); have n2_ := Aside0.mk (hbox); have n3_ := Aside0.mk ((by rw [hg]; exact (below_size (by repeat (first | (with_reducible first | exact HB.out | apply below_alloc | apply pw_below_drewN | apply below_drew1 | refine below_set ?_ GEx0.out) | exact HB.out))) : w.heap.size ≤ gbx1)); have n4_ := Aside0.mk ((by rw [hg]; exact (below_size (by repeat (first | (with_reducible first | exact HB.out | apply below_alloc | apply pw_below_drewN | apply below_drew1 | refine below_set ?_ GEx0.out) | exact HB.out))) : w.heap.size ≤ gbx1)); have n5_ := Aside0.mk ((by rw [hg]; exact Nat.ne_of_lt (blk_lt (g := gbx0) (o := .cells #[.int .i64 a0_0, .int .i64 a0_1, .bool a0_2] 25 (0, 0)) (by (with_reducible repeat (first | refine blk_drewN ?_ _ | refine blk_drew ?_ | refine blk_alloc ?_ _)); exact BKx0.out)) : gbx0 ≠ gbx1)); have n6_ := Aside0.mk ((by rw [hg]; exact Nat.ne_of_gt (blk_lt (g := gbx0) (o := .cells #[.int .i64 a0_0, .int .i64 a0_1, .bool a0_2] 25 (0, 0)) (by (with_reducible repeat (first | refine blk_drewN ?_ _ | refine blk_drew ?_ | refine blk_alloc ?_ _)); exact BKx0.out)) : gbx1 ≠ gbx0)); clear BKx0; clear HB; have BKx0 := n0_; have HB := n1_; have BKx1 := n2_; have GWx1 := n3_; have GEx1 := n4_; have NBx0_128 := n5_; have NBx1_127 := n6_; clear n0_ n1_ n2_ n3_ n4_ n5_ n6_; clear hb hbox hg; have hnbx0 := NBx0_128.out; have hncx0 := NBx1_127.out; have hczx1_0 : wx1.cell? ⟨gbx0, 0, none⟩ = some (.int .i64 a0_0) := (blk_cell BKx0.out 0).trans rfl; have hczx1_1 : wx1.cell? ⟨gbx0, 1, none⟩ = some (.int .i64 a0_1) := (blk_cell BKx0.out 1).trans rfl; have hczx1_2 : wx1.cell? ⟨gbx0, 2, none⟩ = some (.bool a0_2) := (blk_cell BKx0.out 2).trans rfl; have hfzx1_0 := blk_frozen BKx0.out 0; have hfzx1_1 := blk_frozen BKx0.out 1; have hfzx1_2 := blk_frozen BKx0.out 2) | ((with_reducible refine gate_callee (f := 16) rfl ?_); refine goesL_ (some 7) rfl rfl Try.func16 (by kernel_rfl) rfl #[.agg #[.int .i64 a0_0, .int .i64 a0_1, .bool a0_2]] rfl (by (try simp only [List.map_toArray, List.map_cons, List.map_nil]); first | done | rfl | (simp only [List.length_drop, List.length_take]; rfl)) ?_; (with_reducible refine (impl_IsPlace.calls a0_0 a0_1 a0_2 _ _ A3.out).mono ?_); rintro e wx2 ⟨rfl, hb⟩; refine ⟨_, rfl, ?_⟩; have n0_ := Aside0.mk (blk_below (g := gbx0) (o := .cells #[.int .i64 a0_0, .int .i64 a0_1, .bool a0_2] 25 (0, 0)) (by (with_reducible repeat (first | refine blk_drewN ?_ _ | refine blk_drew ?_ | refine blk_alloc ?_ _)); exact BKx0.out) hb); have n1_ := Aside0.mk (blk_below (g := gbx1) (o := .cells #[.int .i64 a1_0, .int .i64 a1_1, .bool a1_2] 25 (0, 0)) (by (with_reducible repeat (first | refine blk_drewN ?_ _ | refine blk_drew ?_ | refine blk_alloc ?_ _)); exact BKx1.out) hb); have n2_ := Aside0.mk (below_step (by repeat (first | (with_reducible first | exact HB.out | apply below_alloc | apply pw_below_drewN | apply below_drew1 | refine below_set ?_ GEx0.out | refine below_set ?_ GEx1.out) | exact HB.out)) hb); clear BKx0; clear BKx1; clear HB; have BKx0 := n0_; have BKx1 := n1_; have HB := n2_; clear n0_ n1_ n2_; (try clear hb); (try clear hb2); (try clear hk); (try clear hi); have hczx2_0 : wx2.cell? ⟨gbx1, 0, none⟩ = some (.int .i64 a1_0) := (blk_cell BKx1.out 0).trans rfl; have hczx2_1 : wx2.cell? ⟨gbx1, 1, none⟩ = some (.int .i64 a1_1) := (blk_cell BKx1.out 1).trans rfl; have hczx2_2 : wx2.cell? ⟨gbx1, 2, none⟩ = some (.bool a1_2) := (blk_cell BKx1.out 2).trans rfl; have hfzx2_0 := blk_frozen BKx1.out 0; have hfzx2_1 := blk_frozen BKx1.out 1; have hfzx2_2 := blk_frozen BKx1.out 2) | (go_at_call 16; (with_reducible refine (impl_IsPlace.calls a1_0 a1_1 a1_2 _ _ A5.out).mono ?_); rintro e wx3 ⟨rfl, hb⟩; have n0_ := Aside0.mk (blk_below (g := gbx0) (o := .cells #[.int .i64 a0_0, .int .i64 a0_1, .bool a0_2] 25 (0, 0)) (by (with_reducible repeat (first | refine blk_drewN ?_ _ | refine blk_drew ?_ | refine blk_alloc ?_ _)); exact BKx0.out) hb); have n1_ := Aside0.mk (blk_below (g := gbx1) (o := .cells #[.int .i64 a1_0, .int .i64 a1_1, .bool a1_2] 25 (0, 0)) (by (with_reducible repeat (first | refine blk_drewN ?_ _ | refine blk_drew ?_ | refine blk_alloc ?_ _)); exact BKx1.out) hb); have n2_ := Aside0.mk (below_step (by repeat (first | (with_reducible first | exact HB.out | apply below_alloc | apply pw_below_drewN | apply below_drew1 | refine below_set ?_ GEx0.out | refine below_set ?_ GEx1.out) | exact HB.out)) hb); clear BKx0; clear BKx1; clear HB; have BKx0 := n0_; have BKx1 := n1_; have HB := n2_; clear n0_ n1_ n2_; (try clear hb); (try clear hb2); (try clear hk); (try clear hi); have hczx3_0 : wx3.cell? ⟨gbx0, 0, none⟩ = some (.int .i64 a0_0) := (blk_cell BKx0.out 0).trans rfl; have hczx3_1 : wx3.cell? ⟨gbx0, 1, none⟩ = some (.int .i64 a0_1) := (blk_cell BKx0.out 1).trans rfl; have hczx3_2 : wx3.cell? ⟨gbx0, 2, none⟩ = some (.bool a0_2) := (blk_cell BKx0.out 2).trans rfl; have hfzx3_0 := blk_frozen BKx0.out 0; have hfzx3_1 := blk_frozen BKx0.out 1; have hfzx3_2 := blk_frozen BKx0.out 2; have hczx4_0 : wx3.cell? ⟨gbx1, 0, none⟩ = some (.int .i64 a1_0) := (blk_cell BKx1.out 0).trans rfl; have hczx4_1 : wx3.cell? ⟨gbx1, 1, none⟩ = some (.int .i64 a1_1) := (blk_cell BKx1.out 1).trans rfl; have hczx4_2 : wx3.cell? ⟨gbx1, 2, none⟩ = some (.bool a1_2) := (blk_cell BKx1.out 2).trans rfl; have hfzx4_0 := blk_frozen BKx1.out 0; have hfzx4_1 := blk_frozen BKx1.out 1; have hfzx4_2 := blk_frozen BKx1.out 2) | ((with_reducible refine gate_callee (f := 50) rfl ?_); refine goesL_ (some 16) rfl rfl Try.func50 (by kernel_rfl) rfl #[.agg #[.int .i64 a0_0, .int .i64 a0_1, .bool a0_2], .agg #[.int .i64 a1_0, .int .i64 a1_1, .bool a1_2]] rfl (by (try simp only [List.map_toArray, List.map_cons, List.map_nil]); first | done | rfl | (simp only [List.length_drop, List.length_take]; rfl)) ?_; (with_reducible refine (impl_Place_distance.calls a0_0 a0_1 a0_2 a1_0 a1_1 a1_2 _ _ A7.out).mono ?_); rintro e wx4 ⟨rfl, hb⟩; refine ⟨_, rfl, ?_⟩; have n0_ := Aside0.mk (blk_below (g := gbx0) (o := .cells #[.int .i64 a0_0, .int .i64 a0_1, .bool a0_2] 25 (0, 0)) (by (with_reducible repeat (first | refine blk_drewN ?_ _ | refine blk_drew ?_ | refine blk_alloc ?_ _)); exact BKx0.out) hb); have n1_ := Aside0.mk (blk_below (g := gbx1) (o := .cells #[.int .i64 a1_0, .int .i64 a1_1, .bool a1_2] 25 (0, 0)) (by (with_reducible repeat (first | refine blk_drewN ?_ _ | refine blk_drew ?_ | refine blk_alloc ?_ _)); exact BKx1.out) hb); have n2_ := Aside0.mk (below_step (by repeat (first | (with_reducible first | exact HB.out | apply below_alloc | apply pw_below_drewN | apply below_drew1 | refine below_set ?_ GEx0.out | refine below_set ?_ GEx1.out) | exact HB.out)) hb); clear BKx0; clear BKx1; clear HB; have BKx0 := n0_; have BKx1 := n1_; have HB := n2_; clear n0_ n1_ n2_; (try clear hb); (try clear hb2); (try clear hk); (try clear hi)))
  · go_ret2
    exact ⟨by first | rfl | (simp [errW_none, errW_some] <;> rfl) | (simp [*, errW_none, errW_some] <;> rfl), by repeat (first | (with_reducible first | exact HB.out | apply below_alloc | apply pw_below_drewN | apply below_drew1 | refine below_set ?_ GEx0.out | refine below_set ?_ GEx1.out) | exact HB.out)⟩
  · go_ret2
    exact ⟨by first | rfl | (simp [errW_none, errW_some] <;> rfl) | (simp [*, errW_none, errW_some] <;> rfl), by repeat (first | (with_reducible first | exact HB.out | apply below_alloc | apply pw_below_drewN | apply below_drew1 | refine below_set ?_ GEx0.out | refine below_set ?_ GEx1.out) | exact HB.out)⟩
  · go_ret2
    exact ⟨by first | rfl | (simp [errW_none, errW_some] <;> rfl) | (simp [*, errW_none, errW_some] <;> rfl), by repeat (first | (with_reducible first | exact HB.out | apply below_alloc | apply pw_below_drewN | apply below_drew1 | refine below_set ?_ GEx0.out | refine below_set ?_ GEx1.out) | exact HB.out)⟩

/-! ### spec_l1Sign: function 52 -/
def spec_l1Sign.f (a0 : Int) : Option (Int) := if a0 > 0 then (some 1) else (if a0 < 0 then (some (-1)) else (some 0))
set_option maxHeartbeats 8000000 in
set_option maxRecDepth 100000 in
theorem spec_l1Sign.calls (a0 : Int) (r : Int) (w : World) (h : spec_l1Sign.f a0 = some r) :
    Calls Try.prog 52 #[.int .i64 a0] w fun e w' => e = .returned (.int .i64 r) ∧ Drawn0 w w' := by
  have H : (if a0 > 0 then (some 1) else (if a0 < 0 then (some (-1)) else (some 0))) = some r := h
  clear h
  by_cases c2 : a0 > 0
  · rw [if_pos c2] at H
    have c2b0 : decide (0 < a0) = true := decide_eq_true c2
    clear c2
    obtain rfl := Option.some.inj H
    go_enter Try.func52, Try.ntmps52
    go_wp2
    go_ret
    exact ⟨by first | rfl | (simp; done) | (simp [*]; done), by repeat (first | exact Drawn0.refl _ | apply Drawn0.step)⟩
  · rw [if_neg c2] at H
    have c2b0 : decide (0 < a0) = false := decide_eq_false c2
    clear c2
    by_cases c3 : a0 < 0
    · rw [if_pos c3] at H
      have c3b0 : decide (a0 < 0) = true := decide_eq_true c3
      clear c3
      obtain rfl := Option.some.inj H
      go_enter Try.func52, Try.ntmps52
      go_wp2
      go_ret
      exact ⟨by first | rfl | (simp; done) | (simp [*]; done), by repeat (first | exact Drawn0.refl _ | apply Drawn0.step)⟩
    · rw [if_neg c3] at H
      have c3b0 : decide (a0 < 0) = false := decide_eq_false c3
      clear c3
      obtain rfl := Option.some.inj H
      go_enter Try.func52, Try.ntmps52
      go_wp2
      go_ret
      exact ⟨by first | rfl | (simp; done) | (simp [*]; done), by repeat (first | exact Drawn0.refl _ | apply Drawn0.step)⟩

end Go.Proofs.Ytmjejlifohghjaa.FC
