-- laid by pr.py (wip/tools) over the kit's printer; Lean checks it
import Derived.Test.YtkhaofalaikegaaFAx0
import Derived.Test.YtkhaofalaikegaaFAx31
import Derived.Test.YtkhaofalaikegaaFAx32
namespace Go.Proofs.Ytkhaofalaikegaa.FA
open Go.RowKit Go.Proofs.YtkhaofalaikegaaW.PrintWords Go.Proofs.YtkhaofalaikegaaW.PrintLast Go.Proofs.YtkhaofalaikegaaW.PrintMore
attribute [local go_sem] max2_int min2_int max_two min_two max_three min_three max_four min_four   -- for this text's walks alone
set_option linter.unusedVariables false
set_option linter.unusedSimpArgs false

/-! ### spec_IsWeaker: function 35 -/
def spec_IsWeaker.j0 : Nat → Bool → ByteArray → ByteArray → Int → ByteArray → Int → ByteArray → ByteArray → Int → ByteArray → Int → Option (Bool × Bool)
  | 0, _, _, _, _, _, _, _, _, _, _, _ => none
  | k + 1, x13, x481000, x481001, x481002, x481003, x481004, x482000, x482001, x482002, x482003, x482004 => if x13 = true then (some (false, false)) else ((spec_seMissed.f k x481000 x482000).bind fun t484 => (if t484 = 0 then ((spec_seMissed.f k x481001 x482001).bind fun t485 => (if t485 = 0 then (if x481002 < 0 then (if x481004 = 0 then (if x481003.toList = ([42] : List UInt8) then (some (true, true)) else (some ((x481003.toList == x482003.toList), true))) else (if x481004 = x482004 then (if x481003.toList = ([42] : List UInt8) then (some (true, true)) else (some ((x481003.toList == x482003.toList), true))) else (some (false, true)))) else (if x481002 = x482002 then (if x481004 = 0 then (if x481003.toList = ([42] : List UInt8) then (some (true, true)) else (some ((x481003.toList == x482003.toList), true))) else (if x481004 = x482004 then (if x481003.toList = ([42] : List UInt8) then (some (true, true)) else (some ((x481003.toList == x482003.toList), true))) else (some (false, true)))) else (some (false, true)))) else (some (false, true)))) else (some (false, true))))
def spec_IsWeaker.f (k : Nat) (a0_0 : ByteArray) (a0_1 : ByteArray) (a0_2 : Int) (a0_3 : ByteArray) (a0_4 : Int) (a1_0 : ByteArray) (a1_1 : ByteArray) (a1_2 : Int) (a1_3 : ByteArray) (a1_4 : Int) : Option (Bool × Bool) := (spec_seGood.f k a0_0 a0_1 a0_2 a0_3 a0_4).bind fun t482 => (if t482 = true then ((spec_seGood.f k a1_0 a1_1 a1_2 a1_3 a1_4).bind fun t483 => (spec_IsWeaker.j0 k (!t483) a0_0 a0_1 a0_2 a0_3 a0_4 a1_0 a1_1 a1_2 a1_3 a1_4)) else (spec_IsWeaker.j0 k true a0_0 a0_1 a0_2 a0_3 a0_4 a1_0 a1_1 a1_2 a1_3 a1_4))
theorem spec_IsWeaker.mono_l : ∀ k, (∀ y0 y1 y2 y3 y4 y5 y6 y7 y8 y9 y10, LeO (spec_IsWeaker.j0 k y0 y1 y2 y3 y4 y5 y6 y7 y8 y9 y10) (spec_IsWeaker.j0 (k + 1) y0 y1 y2 y3 y4 y5 y6 y7 y8 y9 y10))
  | 0 => fun _ _ _ _ _ _ _ _ _ _ _ r h => by simp [spec_IsWeaker.j0] at h
  | k + 1 => by
    have ih0 := spec_IsWeaker.mono_l k
    · intro y0 y1 y2 y3 y4 y5 y6 y7 y8 y9 y10
      unfold spec_IsWeaker.j0
      repeat' first
      | (with_reducible exact ih0 _ _ _ _ _ _ _ _ _ _ _)
      | (with_reducible exact spec_seGood.mono _ _ _ _ _ _)
      | (with_reducible exact spec_seMissed.mono _ _ _)
      | (with_reducible exact LeO.refl _)
      | (with_reducible exact LeO.none _)
      | (with_reducible refine LeO.ite ?_ ?_)
      | (with_reducible refine LeO.bind ?_ (fun _ => ?_))
      | exact ih0 _ _ _ _ _ _ _ _ _ _ _
      | exact spec_seGood.mono _ _ _ _ _ _
      | exact spec_seMissed.mono _ _ _
      | exact LeO.none _
      | refine LeO.ite ?_ ?_
      | refine LeO.bind ?_ (fun _ => ?_)
theorem spec_IsWeaker.mono : ∀ a0 a1 a2 a3 a4 a5 a6 a7 a8 a9 k, LeO (spec_IsWeaker.f k a0 a1 a2 a3 a4 a5 a6 a7 a8 a9) (spec_IsWeaker.f (k + 1) a0 a1 a2 a3 a4 a5 a6 a7 a8 a9) := by
  intro a0 a1 a2 a3 a4 a5 a6 a7 a8 a9 k
  have ih0 := spec_IsWeaker.mono_l k
  unfold spec_IsWeaker.f
  repeat' first
      | (with_reducible exact ih0 _ _ _ _ _ _ _ _ _ _ _)
      | (with_reducible exact spec_seGood.mono _ _ _ _ _ _)
      | (with_reducible exact spec_seMissed.mono _ _ _)
      | (with_reducible exact LeO.refl _)
      | (with_reducible exact LeO.none _)
      | (with_reducible refine LeO.ite ?_ ?_)
      | (with_reducible refine LeO.bind ?_ (fun _ => ?_))
      | exact ih0 _ _ _ _ _ _ _ _ _ _ _
      | exact spec_seGood.mono _ _ _ _ _ _
      | exact spec_seMissed.mono _ _ _
      | exact LeO.none _
      | refine LeO.ite ?_ ?_
      | refine LeO.bind ?_ (fun _ => ?_)
set_option maxHeartbeats 8000000 in
set_option maxRecDepth 100000 in
theorem spec_IsWeaker.calls (k : Nat) (a0_0 : ByteArray) (a0_1 : ByteArray) (a0_2 : Int) (a0_3 : ByteArray) (a0_4 : Int) (a1_0 : ByteArray) (a1_1 : ByteArray) (a1_2 : Int) (a1_3 : ByteArray) (a1_4 : Int) (r1 : Bool) (r2 : Bool) (w : World) (h : spec_IsWeaker.f k a0_0 a0_1 a0_2 a0_3 a0_4 a1_0 a1_1 a1_2 a1_3 a1_4 = some (r1, r2)) :
    Calls Try.prog 35 #[.agg #[.string a0_0, .string a0_1, .int .i64 a0_2, .string a0_3, .int .i64 a0_4], .agg #[.string a1_0, .string a1_1, .int .i64 a1_2, .string a1_3, .int .i64 a1_4]] w fun e w' => e = .returned (.tuple #[.bool r1, .bool r2]) ∧ Below w.heap.size w w' := by
  have hu65 := Try.underlying65
  have HB := Aside0.mk (Below.refl w.heap.size w)
  have H : ((spec_seGood.f k a0_0 a0_1 a0_2 a0_3 a0_4).bind fun t482 => (if t482 = true then ((spec_seGood.f k a1_0 a1_1 a1_2 a1_3 a1_4).bind fun t483 => (spec_IsWeaker.j0 k (!t483) a0_0 a0_1 a0_2 a0_3 a0_4 a1_0 a1_1 a1_2 a1_3 a1_4)) else (spec_IsWeaker.j0 k true a0_0 a0_1 a0_2 a0_3 a0_4 a1_0 a1_1 a1_2 a1_3 a1_4))) = some (r1, r2) := h
  clear h
  have HC3 := Aside0.mk H
  clear H
  go_enter Try.func35, Try.ntmps35
  go_upto_region 1 with (first | ((with_reducible refine gate_dst (N := 2) rfl ?_); refine box_event ?hg (N := 2) ?hd (cs := #[.string a0_0, .string a0_1, .int .i64 a0_2, .string a0_3, .int .i64 a0_4]) (t := 65) ?hr ?_; (case hd => rfl); (case hg => rfl); (case hr => first | (go_simp; done) | (go_simp; rfl)); intro gb480 hg w4 hbox hb; have n0_ := Aside0.mk (below_step (by repeat (first | (with_reducible first | exact HB.out | apply below_alloc | apply pw_below_drewN | apply below_drew1) | exact HB.out)) hb); have n1_ := Aside0.mk (hbox); have n2_ := Aside0.mk ((by rw [hg]; exact (below_size (by repeat (first | (with_reducible first | exact HB.out | apply below_alloc | apply pw_below_drewN | apply below_drew1) | exact HB.out))) : w.heap.size ≤ gb480)); have n3_ := Aside0.mk ((by rw [hg]; exact (below_size (by repeat (first | (with_reducible first | exact HB.out | apply below_alloc | apply pw_below_drewN | apply below_drew1) | exact HB.out))) : w.heap.size ≤ gb480)); clear HB; have HB := n0_; have BK480 := n1_; have GW480 := n2_; have GE480 := n3_; clear n0_ n1_ n2_ n3_; clear hb hbox hg) | ((with_reducible refine gate_dst (N := 3) rfl ?_); refine box_event ?hg (N := 3) ?hd (cs := #[.string a1_0, .string a1_1, .int .i64 a1_2, .string a1_3, .int .i64 a1_4]) (t := 65) ?hr ?_; (case hd => rfl); (case hg => rfl); (case hr => first | (go_simp; done) | (go_simp; rfl)); intro gb481 hg w5 hbox hb; have n0_ := Aside0.mk (blk_below (g := gb480) (o := .cells #[.string a0_0, .string a0_1, .int .i64 a0_2, .string a0_3, .int .i64 a0_4] 65 (0, 0)) (by (with_reducible repeat (first | refine blk_drewN ?_ _ | refine blk_drew ?_ | refine blk_alloc ?_ _)); exact BK480.out) hb); have n1_ := Aside0.mk (below_step (by repeat (first | (with_reducible first | exact HB.out | apply below_alloc | apply pw_below_drewN | apply below_drew1 | refine below_set ?_ GE480.out) | exact HB.out)) hb); have n2_ := Aside0.mk (hbox); have n3_ := Aside0.mk ((by rw [hg]; exact (below_size (by repeat (first | (with_reducible first | exact HB.out | apply below_alloc | apply pw_below_drewN | apply below_drew1 | refine below_set ?_ GE480.out) | exact HB.out))) : w.heap.size ≤ gb481)); have n4_ := Aside0.mk ((by rw [hg]; exact (below_size (by repeat (first | (with_reducible first | exact HB.out | apply below_alloc | apply pw_below_drewN | apply below_drew1 | refine below_set ?_ GE480.out) | exact HB.out))) : w.heap.size ≤ gb481)); have n5_ := Aside0.mk ((by rw [hg]; exact Nat.ne_of_lt (blk_lt (g := gb480) (o := .cells #[.string a0_0, .string a0_1, .int .i64 a0_2, .string a0_3, .int .i64 a0_4] 65 (0, 0)) (by (with_reducible repeat (first | refine blk_drewN ?_ _ | refine blk_drew ?_ | refine blk_alloc ?_ _)); exact BK480.out)) : gb480 ≠ gb481)); have n6_ := Aside0.mk ((by rw [hg]; exact Nat.ne_of_gt (blk_lt (g := gb480) (o := .cells #[.string a0_0, .string a0_1, .int .i64 a0_2, .string a0_3, .int .i64 a0_4] 65 (0, 0)) (by (with_reducible repeat (first | refine blk_drewN ?_ _ | refine blk_drew ?_ | refine blk_alloc ?_ _)); exact BK480.out)) : gb481 ≠ gb480)); clear BK480; clear HB; have BK480 := n0_; have HB := n1_; have BK481 := n2_; have GW481 := n3_; have GE481 := n4_; have NB480_481 := n5_; have NB481_480 := n6_; clear n0_ n1_ n2_ n3_ n4_ n5_ n6_; clear hb hbox hg))
  (try simp only [Act.put, List.setIfInBounds_toArray, List.set_cons_zero, List.set_cons_succ])
  go_cut [13] (fun v13 wc => ∃ (kq : Nat) (x13_2 : Bool), v13 = .bool x13_2 ∧ Aside0 (spec_IsWeaker.j0 kq x13_2 a0_0 a0_1 a0_2 a0_3 a0_4 a1_0 a1_1 a1_2 a1_3 a1_4 = some (r1, r2)) ∧ Aside0 (kq ≤ k) ∧ Aside0 (wc.heap[gb480]? = some (.cells #[.string a0_0, .string a0_1, .int .i64 a0_2, .string a0_3, .int .i64 a0_4] 65 (0, 0))) ∧ Aside0 (wc.heap[gb481]? = some (.cells #[.string a1_0, .string a1_1, .int .i64 a1_2, .string a1_3, .int .i64 a1_4] 65 (0, 0))) ∧ Aside0 (Below w.heap.size w wc))
  case first =>
    have H := HC3.out
    clear HC3
    replace H := Option.bind_eq_some_iff.mp H
    obtain ⟨t482, A60, H⟩ := H
    replace H : (if t482 = true then ((spec_seGood.f k a1_0 a1_1 a1_2 a1_3 a1_4).bind fun t483 => (spec_IsWeaker.j0 k (!t483) a0_0 a0_1 a0_2 a0_3 a0_4 a1_0 a1_1 a1_2 a1_3 a1_4)) else (spec_IsWeaker.j0 k true a0_0 a0_1 a0_2 a0_3 a0_4 a1_0 a1_1 a1_2 a1_3 a1_4)) = some (r1, r2) := H
    have A6 := Aside0.mk A60
    clear A60
    by_cases c7 : t482 = true
    · subst c7
      have H1 : ((spec_seGood.f k a1_0 a1_1 a1_2 a1_3 a1_4).bind fun t483 => (spec_IsWeaker.j0 k (!t483) a0_0 a0_1 a0_2 a0_3 a0_4 a1_0 a1_1 a1_2 a1_3 a1_4)) = some (r1, r2) := by rw [if_pos rfl] at H; exact H
      clear H
      have H := H1
      clear H1
      replace H := Option.bind_eq_some_iff.mp H
      obtain ⟨t483, A80, H⟩ := H
      replace H : (spec_IsWeaker.j0 k (!t483) a0_0 a0_1 a0_2 a0_3 a0_4 a1_0 a1_1 a1_2 a1_3 a1_4) = some (r1, r2) := H
      have A8 := Aside0.mk A80
      clear A80
      have H' := Aside0.mk H
      clear H
      have hnb9 := NB480_481.out
      have hnc9 := NB481_480.out
      have hcz10_0 : w5.cell? ⟨gb480, 0, none⟩ = some (.string a0_0) := (blk_cell BK480.out 0).trans rfl
      have hcz10_1 : w5.cell? ⟨gb480, 1, none⟩ = some (.string a0_1) := (blk_cell BK480.out 1).trans rfl
      have hcz10_2 : w5.cell? ⟨gb480, 2, none⟩ = some (.int .i64 a0_2) := (blk_cell BK480.out 2).trans rfl
      have hcz10_3 : w5.cell? ⟨gb480, 3, none⟩ = some (.string a0_3) := (blk_cell BK480.out 3).trans rfl
      have hcz10_4 : w5.cell? ⟨gb480, 4, none⟩ = some (.int .i64 a0_4) := (blk_cell BK480.out 4).trans rfl
      have hfz10_0 := blk_frozen BK480.out 0
      have hfz10_1 := blk_frozen BK480.out 1
      have hfz10_2 := blk_frozen BK480.out 2
      have hfz10_3 := blk_frozen BK480.out 3
      have hfz10_4 := blk_frozen BK480.out 4
      go_wp2_with (first | ((with_reducible refine gate_callee (f := 82) rfl ?_); refine goesL_ (some 7) rfl rfl Try.func82 (by kernel_rfl) rfl #[.agg #[.string a0_0, .string a0_1, .int .i64 a0_2, .string a0_3, .int .i64 a0_4]] rfl (by (try simp only [List.map_toArray, List.map_cons, List.map_nil]); first | done | rfl | (simp only [List.length_drop, List.length_take]; rfl)) ?_; (with_reducible refine (spec_seGood.calls k a0_0 a0_1 a0_2 a0_3 a0_4 true _ A6.out).mono ?_); rintro e w11 ⟨rfl, hb⟩; refine ⟨_, rfl, ?_⟩; have n0_ := Aside0.mk (blk_below (g := gb480) (o := .cells #[.string a0_0, .string a0_1, .int .i64 a0_2, .string a0_3, .int .i64 a0_4] 65 (0, 0)) (by (with_reducible repeat (first | refine blk_drewN ?_ _ | refine blk_drew ?_ | refine blk_alloc ?_ _)); exact BK480.out) hb); have n1_ := Aside0.mk (blk_below (g := gb481) (o := .cells #[.string a1_0, .string a1_1, .int .i64 a1_2, .string a1_3, .int .i64 a1_4] 65 (0, 0)) (by (with_reducible repeat (first | refine blk_drewN ?_ _ | refine blk_drew ?_ | refine blk_alloc ?_ _)); exact BK481.out) hb); have n2_ := Aside0.mk (below_step (by repeat (first | (with_reducible first | exact HB.out | apply below_alloc | apply pw_below_drewN | apply below_drew1 | refine below_set ?_ GE480.out | refine below_set ?_ GE481.out) | exact HB.out)) hb); clear BK480; clear BK481; clear HB; have BK480 := n0_; have BK481 := n1_; have HB := n2_; clear n0_ n1_ n2_; (try clear hb); (try clear hb2); (try clear hk); (try clear hi); have hcz12_0 : w11.cell? ⟨gb481, 0, none⟩ = some (.string a1_0) := (blk_cell BK481.out 0).trans rfl; have hcz12_1 : w11.cell? ⟨gb481, 1, none⟩ = some (.string a1_1) := (blk_cell BK481.out 1).trans rfl; have hcz12_2 : w11.cell? ⟨gb481, 2, none⟩ = some (.int .i64 a1_2) := (blk_cell BK481.out 2).trans rfl; have hcz12_3 : w11.cell? ⟨gb481, 3, none⟩ = some (.string a1_3) := (blk_cell BK481.out 3).trans rfl; have hcz12_4 : w11.cell? ⟨gb481, 4, none⟩ = some (.int .i64 a1_4) := (blk_cell BK481.out 4).trans rfl; have hfz12_0 := blk_frozen BK481.out 0; have hfz12_1 := blk_frozen BK481.out 1; have hfz12_2 := blk_frozen BK481.out 2; have hfz12_3 := blk_frozen BK481.out 3; have hfz12_4 := blk_frozen BK481.out 4) | (go_at_call 82; (with_reducible refine (spec_seGood.calls k a1_0 a1_1 a1_2 a1_3 a1_4 t483 _ A8.out).mono ?_); rintro e w13 ⟨rfl, hb⟩; have n0_ := Aside0.mk (blk_below (g := gb480) (o := .cells #[.string a0_0, .string a0_1, .int .i64 a0_2, .string a0_3, .int .i64 a0_4] 65 (0, 0)) (by (with_reducible repeat (first | refine blk_drewN ?_ _ | refine blk_drew ?_ | refine blk_alloc ?_ _)); exact BK480.out) hb); have n1_ := Aside0.mk (blk_below (g := gb481) (o := .cells #[.string a1_0, .string a1_1, .int .i64 a1_2, .string a1_3, .int .i64 a1_4] 65 (0, 0)) (by (with_reducible repeat (first | refine blk_drewN ?_ _ | refine blk_drew ?_ | refine blk_alloc ?_ _)); exact BK481.out) hb); have n2_ := Aside0.mk (below_step (by repeat (first | (with_reducible first | exact HB.out | apply below_alloc | apply pw_below_drewN | apply below_drew1 | refine below_set ?_ GE480.out | refine below_set ?_ GE481.out) | exact HB.out)) hb); clear BK480; clear BK481; clear HB; have BK480 := n0_; have BK481 := n1_; have HB := n2_; clear n0_ n1_ n2_; (try clear hb); (try clear hb2); (try clear hk); (try clear hi)))
      go_meet
      case rel => exact ⟨_, (!t483), (by first | rfl | (simp; done) | (simp [*]; done)), H', ⟨by first | omega | exact Nat.le_refl _⟩, ⟨by (with_reducible repeat (first | refine blk_drewN ?_ _ | refine blk_drew ?_ | refine blk_alloc ?_ _)); exact BK480.out⟩, ⟨by (with_reducible repeat (first | refine blk_drewN ?_ _ | refine blk_drew ?_ | refine blk_alloc ?_ _)); exact BK481.out⟩, ⟨by repeat (first | (with_reducible first | exact HB.out | apply below_alloc | apply pw_below_drewN | apply below_drew1 | refine below_set ?_ GE480.out | refine below_set ?_ GE481.out) | exact HB.out)⟩⟩
    · replace c7 := Bool.eq_false_iff.mpr c7
      subst c7
      have H1 : (spec_IsWeaker.j0 k true a0_0 a0_1 a0_2 a0_3 a0_4 a1_0 a1_1 a1_2 a1_3 a1_4) = some (r1, r2) := by rw [if_neg (show ¬ (false = true) by decide)] at H; exact H
      clear H
      have H := H1
      clear H1
      have H' := Aside0.mk H
      clear H
      have hnb14 := NB480_481.out
      have hnc14 := NB481_480.out
      have hcz15_0 : w5.cell? ⟨gb480, 0, none⟩ = some (.string a0_0) := (blk_cell BK480.out 0).trans rfl
      have hcz15_1 : w5.cell? ⟨gb480, 1, none⟩ = some (.string a0_1) := (blk_cell BK480.out 1).trans rfl
      have hcz15_2 : w5.cell? ⟨gb480, 2, none⟩ = some (.int .i64 a0_2) := (blk_cell BK480.out 2).trans rfl
      have hcz15_3 : w5.cell? ⟨gb480, 3, none⟩ = some (.string a0_3) := (blk_cell BK480.out 3).trans rfl
      have hcz15_4 : w5.cell? ⟨gb480, 4, none⟩ = some (.int .i64 a0_4) := (blk_cell BK480.out 4).trans rfl
      have hfz15_0 := blk_frozen BK480.out 0
      have hfz15_1 := blk_frozen BK480.out 1
      have hfz15_2 := blk_frozen BK480.out 2
      have hfz15_3 := blk_frozen BK480.out 3
      have hfz15_4 := blk_frozen BK480.out 4
      go_wp2_with (first | ((with_reducible refine gate_callee (f := 82) rfl ?_); refine goesL_ (some 7) rfl rfl Try.func82 (by kernel_rfl) rfl #[.agg #[.string a0_0, .string a0_1, .int .i64 a0_2, .string a0_3, .int .i64 a0_4]] rfl (by (try simp only [List.map_toArray, List.map_cons, List.map_nil]); first | done | rfl | (simp only [List.length_drop, List.length_take]; rfl)) ?_; (with_reducible refine (spec_seGood.calls k a0_0 a0_1 a0_2 a0_3 a0_4 false _ A6.out).mono ?_); rintro e w16 ⟨rfl, hb⟩; refine ⟨_, rfl, ?_⟩; have n0_ := Aside0.mk (blk_below (g := gb480) (o := .cells #[.string a0_0, .string a0_1, .int .i64 a0_2, .string a0_3, .int .i64 a0_4] 65 (0, 0)) (by (with_reducible repeat (first | refine blk_drewN ?_ _ | refine blk_drew ?_ | refine blk_alloc ?_ _)); exact BK480.out) hb); have n1_ := Aside0.mk (blk_below (g := gb481) (o := .cells #[.string a1_0, .string a1_1, .int .i64 a1_2, .string a1_3, .int .i64 a1_4] 65 (0, 0)) (by (with_reducible repeat (first | refine blk_drewN ?_ _ | refine blk_drew ?_ | refine blk_alloc ?_ _)); exact BK481.out) hb); have n2_ := Aside0.mk (below_step (by repeat (first | (with_reducible first | exact HB.out | apply below_alloc | apply pw_below_drewN | apply below_drew1 | refine below_set ?_ GE480.out | refine below_set ?_ GE481.out) | exact HB.out)) hb); clear BK480; clear BK481; clear HB; have BK480 := n0_; have BK481 := n1_; have HB := n2_; clear n0_ n1_ n2_; (try clear hb); (try clear hb2); (try clear hk); (try clear hi)))
      go_meet
      case rel => exact ⟨_, (true), (by first | rfl | (simp; done) | (simp [*]; done)), H', ⟨by first | omega | exact Nat.le_refl _⟩, ⟨by (with_reducible repeat (first | refine blk_drewN ?_ _ | refine blk_drew ?_ | refine blk_alloc ?_ _)); exact BK480.out⟩, ⟨by (with_reducible repeat (first | refine blk_drewN ?_ _ | refine blk_drew ?_ | refine blk_alloc ?_ _)); exact BK481.out⟩, ⟨by repeat (first | (with_reducible first | exact HB.out | apply below_alloc | apply pw_below_drewN | apply below_drew1 | refine below_set ?_ GE480.out | refine below_set ?_ GE481.out) | exact HB.out)⟩⟩
  case rest =>
    clear HC3
    try clear c1
    try clear p2
    try clear c3
    try clear c7
    try clear c8
    try clear c9
    try clear c14
    try clear hcz10_0
    try clear hcz10_1
    try clear hcz10_2
    try clear hcz10_3
    try clear hcz10_4
    try clear hcz12_0
    try clear hcz12_1
    try clear hcz12_2
    try clear hcz12_3
    try clear hcz12_4
    try clear hcz15_0
    try clear hcz15_1
    try clear hcz15_2
    try clear hcz15_3
    try clear hcz15_4
    try clear hfz10_0
    try clear hfz10_1
    try clear hfz10_2
    try clear hfz10_3
    try clear hfz10_4
    try clear hfz12_0
    try clear hfz12_1
    try clear hfz12_2
    try clear hfz12_3
    try clear hfz12_4
    try clear hfz15_0
    try clear hfz15_1
    try clear hfz15_2
    try clear hfz15_3
    try clear hfz15_4
    obtain ⟨kq, x13_2, rfl, HA, HJ2, BK480, BK481, HB⟩ := hcut
    cases kq with
    | zero => exact absurd HA.out (by simp [spec_IsWeaker.j0])
    | succ kj2 =>
      have H := HA.out
      clear HA
      simp only [spec_IsWeaker.j0] at H
      by_cases c17 : x13_2 = true
      · subst c17
        have H1 : (some (false, false)) = some (r1, r2) := by rw [if_pos rfl] at H; exact H
        clear H
        have H := H1
        clear H1
        simp only [Option.some.injEq, Prod.mk.injEq] at H
        obtain ⟨rfl, rfl⟩ := H
        go_wp2
        go_ret2
        exact ⟨by first | rfl | (simp [errW_none, errW_some] <;> rfl) | (simp [*, errW_none, errW_some] <;> rfl), by repeat (first | (with_reducible first | exact HB.out | apply below_alloc | apply pw_below_drewN | apply below_drew1 | refine below_set ?_ GE480.out | refine below_set ?_ GE481.out) | exact HB.out)⟩
      · replace c17 := Bool.eq_false_iff.mpr c17
        subst c17
        have H1 : ((spec_seMissed.f kj2 a0_0 a1_0).bind fun t484 => (if t484 = 0 then ((spec_seMissed.f kj2 a0_1 a1_1).bind fun t485 => (if t485 = 0 then (if a0_2 < 0 then (if a0_4 = 0 then (if a0_3.toList = ([42] : List UInt8) then (some (true, true)) else (some ((a0_3.toList == a1_3.toList), true))) else (if a0_4 = a1_4 then (if a0_3.toList = ([42] : List UInt8) then (some (true, true)) else (some ((a0_3.toList == a1_3.toList), true))) else (some (false, true)))) else (if a0_2 = a1_2 then (if a0_4 = 0 then (if a0_3.toList = ([42] : List UInt8) then (some (true, true)) else (some ((a0_3.toList == a1_3.toList), true))) else (if a0_4 = a1_4 then (if a0_3.toList = ([42] : List UInt8) then (some (true, true)) else (some ((a0_3.toList == a1_3.toList), true))) else (some (false, true)))) else (some (false, true)))) else (some (false, true)))) else (some (false, true)))) = some (r1, r2) := by rw [if_neg (show ¬ (false = true) by decide)] at H; exact H
        clear H
        have H := H1
        clear H1
        replace H := Option.bind_eq_some_iff.mp H
        obtain ⟨t484, A180, H⟩ := H
        replace H : (if t484 = 0 then ((spec_seMissed.f kj2 a0_1 a1_1).bind fun t485 => (if t485 = 0 then (if a0_2 < 0 then (if a0_4 = 0 then (if a0_3.toList = ([42] : List UInt8) then (some (true, true)) else (some ((a0_3.toList == a1_3.toList), true))) else (if a0_4 = a1_4 then (if a0_3.toList = ([42] : List UInt8) then (some (true, true)) else (some ((a0_3.toList == a1_3.toList), true))) else (some (false, true)))) else (if a0_2 = a1_2 then (if a0_4 = 0 then (if a0_3.toList = ([42] : List UInt8) then (some (true, true)) else (some ((a0_3.toList == a1_3.toList), true))) else (if a0_4 = a1_4 then (if a0_3.toList = ([42] : List UInt8) then (some (true, true)) else (some ((a0_3.toList == a1_3.toList), true))) else (some (false, true)))) else (some (false, true)))) else (some (false, true)))) else (some (false, true))) = some (r1, r2) := H
        have A18 := Aside0.mk A180
        clear A180
        by_cases c19 : t484 = 0
        · rw [if_pos c19] at H
          have c19b0 : (t484 == 0) = true := beq_iff_eq.mpr c19
          have c19b1 : (t484 != 0) = false := bne_eq_false_iff_eq.mpr c19
          clear c19
          replace H := Option.bind_eq_some_iff.mp H
          obtain ⟨t485, A200, H⟩ := H
          replace H : (if t485 = 0 then (if a0_2 < 0 then (if a0_4 = 0 then (if a0_3.toList = ([42] : List UInt8) then (some (true, true)) else (some ((a0_3.toList == a1_3.toList), true))) else (if a0_4 = a1_4 then (if a0_3.toList = ([42] : List UInt8) then (some (true, true)) else (some ((a0_3.toList == a1_3.toList), true))) else (some (false, true)))) else (if a0_2 = a1_2 then (if a0_4 = 0 then (if a0_3.toList = ([42] : List UInt8) then (some (true, true)) else (some ((a0_3.toList == a1_3.toList), true))) else (if a0_4 = a1_4 then (if a0_3.toList = ([42] : List UInt8) then (some (true, true)) else (some ((a0_3.toList == a1_3.toList), true))) else (some (false, true)))) else (some (false, true)))) else (some (false, true))) = some (r1, r2) := H
          have A20 := Aside0.mk A200
          clear A200
          by_cases c21 : t485 = 0
          · rw [if_pos c21] at H
            have c21b0 : (t485 == 0) = true := beq_iff_eq.mpr c21
            have c21b1 : (t485 != 0) = false := bne_eq_false_iff_eq.mpr c21
            clear c21
            by_cases c22 : a0_2 < 0
            · rw [if_pos c22] at H
              have c22b0 : decide (a0_2 < 0) = true := decide_eq_true c22
              clear c22
              by_cases c23 : a0_4 = 0
              · rw [if_pos c23] at H
                have c23b0 : (a0_4 == 0) = true := beq_iff_eq.mpr c23
                have c23b1 : (a0_4 != 0) = false := bne_eq_false_iff_eq.mpr c23
                clear c23
                by_cases c24 : a0_3.toList = ([42] : List UInt8)
                · rw [if_pos c24] at H
                  have c24b0 : (a0_3.toList == ([42] : List UInt8)) = true := beq_iff_eq.mpr c24
                  have c24b1 : (a0_3.toList != ([42] : List UInt8)) = false := bne_eq_false_iff_eq.mpr c24
                  clear c24
                  simp only [Option.some.injEq, Prod.mk.injEq] at H
                  obtain ⟨rfl, rfl⟩ := H
                  have hnb25 := NB480_481.out
                  have hnc25 := NB481_480.out
                  have hcz26_0 : wc.cell? ⟨gb480, 0, none⟩ = some (.string a0_0) := (blk_cell BK480.out 0).trans rfl
                  have hcz26_1 : wc.cell? ⟨gb480, 1, none⟩ = some (.string a0_1) := (blk_cell BK480.out 1).trans rfl
                  have hcz26_2 : wc.cell? ⟨gb480, 2, none⟩ = some (.int .i64 a0_2) := (blk_cell BK480.out 2).trans rfl
                  have hcz26_3 : wc.cell? ⟨gb480, 3, none⟩ = some (.string a0_3) := (blk_cell BK480.out 3).trans rfl
                  have hcz26_4 : wc.cell? ⟨gb480, 4, none⟩ = some (.int .i64 a0_4) := (blk_cell BK480.out 4).trans rfl
                  have hfz26_0 := blk_frozen BK480.out 0
                  have hfz26_1 := blk_frozen BK480.out 1
                  have hfz26_2 := blk_frozen BK480.out 2
                  have hfz26_3 := blk_frozen BK480.out 3
                  have hfz26_4 := blk_frozen BK480.out 4
                  have hcz27_0 : wc.cell? ⟨gb481, 0, none⟩ = some (.string a1_0) := (blk_cell BK481.out 0).trans rfl
                  have hcz27_1 : wc.cell? ⟨gb481, 1, none⟩ = some (.string a1_1) := (blk_cell BK481.out 1).trans rfl
                  have hcz27_2 : wc.cell? ⟨gb481, 2, none⟩ = some (.int .i64 a1_2) := (blk_cell BK481.out 2).trans rfl
                  have hcz27_3 : wc.cell? ⟨gb481, 3, none⟩ = some (.string a1_3) := (blk_cell BK481.out 3).trans rfl
                  have hcz27_4 : wc.cell? ⟨gb481, 4, none⟩ = some (.int .i64 a1_4) := (blk_cell BK481.out 4).trans rfl
                  have hfz27_0 := blk_frozen BK481.out 0
                  have hfz27_1 := blk_frozen BK481.out 1
                  have hfz27_2 := blk_frozen BK481.out 2
                  have hfz27_3 := blk_frozen BK481.out 3
                  have hfz27_4 := blk_frozen BK481.out 4
                  go_wp2_with (first | ((with_reducible refine gate_callee (f := 83) rfl ?_); refine goesL_ (some 18) rfl rfl Try.func83 (by kernel_rfl) rfl #[.string a0_0, .string a1_0] rfl (by (try simp only [List.map_toArray, List.map_cons, List.map_nil]); first | done | rfl | (simp only [List.length_drop, List.length_take]; rfl)) ?_; (with_reducible refine (spec_seMissed.calls kj2 a0_0 a1_0 t484 _ A18.out).mono ?_); rintro e w' ⟨rfl, ⟨nd, rfl⟩⟩; refine ⟨_, rfl, ?_⟩) | (go_at_call 83; (with_reducible refine (spec_seMissed.calls kj2 a0_1 a1_1 t485 _ A20.out).mono ?_); rintro e w' ⟨rfl, ⟨nd, rfl⟩⟩))
                  go_ret2
                  exact ⟨by first | rfl | (simp [errW_none, errW_some] <;> rfl) | (simp [*, errW_none, errW_some] <;> rfl), by repeat (first | (with_reducible first | exact HB.out | apply below_alloc | apply pw_below_drewN | apply below_drew1 | refine below_set ?_ GE480.out | refine below_set ?_ GE481.out) | exact HB.out)⟩
                · rw [if_neg c24] at H
                  have c24b0 : (a0_3.toList == ([42] : List UInt8)) = false := beq_eq_false_iff_ne.mpr c24
                  have c24b1 : (a0_3.toList != ([42] : List UInt8)) = true := bne_iff_ne.mpr c24
                  simp only [Option.some.injEq, Prod.mk.injEq] at H
                  obtain ⟨rfl, rfl⟩ := H
                  have hnb28 := NB480_481.out
                  have hnc28 := NB481_480.out
                  have hcz29_0 : wc.cell? ⟨gb480, 0, none⟩ = some (.string a0_0) := (blk_cell BK480.out 0).trans rfl
                  have hcz29_1 : wc.cell? ⟨gb480, 1, none⟩ = some (.string a0_1) := (blk_cell BK480.out 1).trans rfl
                  have hcz29_2 : wc.cell? ⟨gb480, 2, none⟩ = some (.int .i64 a0_2) := (blk_cell BK480.out 2).trans rfl
                  have hcz29_3 : wc.cell? ⟨gb480, 3, none⟩ = some (.string a0_3) := (blk_cell BK480.out 3).trans rfl
                  have hcz29_4 : wc.cell? ⟨gb480, 4, none⟩ = some (.int .i64 a0_4) := (blk_cell BK480.out 4).trans rfl
                  have hfz29_0 := blk_frozen BK480.out 0
                  have hfz29_1 := blk_frozen BK480.out 1
                  have hfz29_2 := blk_frozen BK480.out 2
                  have hfz29_3 := blk_frozen BK480.out 3
                  have hfz29_4 := blk_frozen BK480.out 4
                  have hcz30_0 : wc.cell? ⟨gb481, 0, none⟩ = some (.string a1_0) := (blk_cell BK481.out 0).trans rfl
                  have hcz30_1 : wc.cell? ⟨gb481, 1, none⟩ = some (.string a1_1) := (blk_cell BK481.out 1).trans rfl
                  have hcz30_2 : wc.cell? ⟨gb481, 2, none⟩ = some (.int .i64 a1_2) := (blk_cell BK481.out 2).trans rfl
                  have hcz30_3 : wc.cell? ⟨gb481, 3, none⟩ = some (.string a1_3) := (blk_cell BK481.out 3).trans rfl
                  have hcz30_4 : wc.cell? ⟨gb481, 4, none⟩ = some (.int .i64 a1_4) := (blk_cell BK481.out 4).trans rfl
                  have hfz30_0 := blk_frozen BK481.out 0
                  have hfz30_1 := blk_frozen BK481.out 1
                  have hfz30_2 := blk_frozen BK481.out 2
                  have hfz30_3 := blk_frozen BK481.out 3
                  have hfz30_4 := blk_frozen BK481.out 4
                  go_wp2_with (first | ((with_reducible refine gate_callee (f := 83) rfl ?_); refine goesL_ (some 18) rfl rfl Try.func83 (by kernel_rfl) rfl #[.string a0_0, .string a1_0] rfl (by (try simp only [List.map_toArray, List.map_cons, List.map_nil]); first | done | rfl | (simp only [List.length_drop, List.length_take]; rfl)) ?_; (with_reducible refine (spec_seMissed.calls kj2 a0_0 a1_0 t484 _ A18.out).mono ?_); rintro e w' ⟨rfl, ⟨nd, rfl⟩⟩; refine ⟨_, rfl, ?_⟩) | (go_at_call 83; (with_reducible refine (spec_seMissed.calls kj2 a0_1 a1_1 t485 _ A20.out).mono ?_); rintro e w' ⟨rfl, ⟨nd, rfl⟩⟩))
                  go_ret2
                  exact ⟨by first | rfl | (simp [errW_none, errW_some] <;> rfl) | (simp [*, errW_none, errW_some] <;> rfl), by repeat (first | (with_reducible first | exact HB.out | apply below_alloc | apply pw_below_drewN | apply below_drew1 | refine below_set ?_ GE480.out | refine below_set ?_ GE481.out) | exact HB.out)⟩
              · rw [if_neg c23] at H
                have c23b0 : (a0_4 == 0) = false := beq_eq_false_iff_ne.mpr c23
                have c23b1 : (a0_4 != 0) = true := bne_iff_ne.mpr c23
                by_cases c31 : a0_4 = a1_4
                · rw [if_pos c31] at H
                  have c31b0 : (a0_4 == a1_4) = true := beq_iff_eq.mpr c31
                  have c31b1 : (a0_4 != a1_4) = false := bne_eq_false_iff_eq.mpr c31
                  clear c31
                  by_cases c32 : a0_3.toList = ([42] : List UInt8)
                  · rw [if_pos c32] at H
                    have c32b0 : (a0_3.toList == ([42] : List UInt8)) = true := beq_iff_eq.mpr c32
                    have c32b1 : (a0_3.toList != ([42] : List UInt8)) = false := bne_eq_false_iff_eq.mpr c32
                    clear c32
                    simp only [Option.some.injEq, Prod.mk.injEq] at H
                    obtain ⟨rfl, rfl⟩ := H
                    have hnb33 := NB480_481.out
                    have hnc33 := NB481_480.out
                    have hcz34_0 : wc.cell? ⟨gb480, 0, none⟩ = some (.string a0_0) := (blk_cell BK480.out 0).trans rfl
                    have hcz34_1 : wc.cell? ⟨gb480, 1, none⟩ = some (.string a0_1) := (blk_cell BK480.out 1).trans rfl
                    have hcz34_2 : wc.cell? ⟨gb480, 2, none⟩ = some (.int .i64 a0_2) := (blk_cell BK480.out 2).trans rfl
                    have hcz34_3 : wc.cell? ⟨gb480, 3, none⟩ = some (.string a0_3) := (blk_cell BK480.out 3).trans rfl
                    have hcz34_4 : wc.cell? ⟨gb480, 4, none⟩ = some (.int .i64 a0_4) := (blk_cell BK480.out 4).trans rfl
                    have hfz34_0 := blk_frozen BK480.out 0
                    have hfz34_1 := blk_frozen BK480.out 1
                    have hfz34_2 := blk_frozen BK480.out 2
                    have hfz34_3 := blk_frozen BK480.out 3
                    have hfz34_4 := blk_frozen BK480.out 4
                    have hcz35_0 : wc.cell? ⟨gb481, 0, none⟩ = some (.string a1_0) := (blk_cell BK481.out 0).trans rfl
                    have hcz35_1 : wc.cell? ⟨gb481, 1, none⟩ = some (.string a1_1) := (blk_cell BK481.out 1).trans rfl
                    have hcz35_2 : wc.cell? ⟨gb481, 2, none⟩ = some (.int .i64 a1_2) := (blk_cell BK481.out 2).trans rfl
                    have hcz35_3 : wc.cell? ⟨gb481, 3, none⟩ = some (.string a1_3) := (blk_cell BK481.out 3).trans rfl
                    have hcz35_4 : wc.cell? ⟨gb481, 4, none⟩ = some (.int .i64 a1_4) := (blk_cell BK481.out 4).trans rfl
                    have hfz35_0 := blk_frozen BK481.out 0
                    have hfz35_1 := blk_frozen BK481.out 1
                    have hfz35_2 := blk_frozen BK481.out 2
                    have hfz35_3 := blk_frozen BK481.out 3
                    have hfz35_4 := blk_frozen BK481.out 4
                    go_wp2_with (first | ((with_reducible refine gate_callee (f := 83) rfl ?_); refine goesL_ (some 18) rfl rfl Try.func83 (by kernel_rfl) rfl #[.string a0_0, .string a1_0] rfl (by (try simp only [List.map_toArray, List.map_cons, List.map_nil]); first | done | rfl | (simp only [List.length_drop, List.length_take]; rfl)) ?_; (with_reducible refine (spec_seMissed.calls kj2 a0_0 a1_0 t484 _ A18.out).mono ?_); rintro e w' ⟨rfl, ⟨nd, rfl⟩⟩; refine ⟨_, rfl, ?_⟩) | (go_at_call 83; (with_reducible refine (spec_seMissed.calls kj2 a0_1 a1_1 t485 _ A20.out).mono ?_); rintro e w' ⟨rfl, ⟨nd, rfl⟩⟩))
                    go_ret2
                    exact ⟨by first | rfl | (simp [errW_none, errW_some] <;> rfl) | (simp [*, errW_none, errW_some] <;> rfl), by repeat (first | (with_reducible first | exact HB.out | apply below_alloc | apply pw_below_drewN | apply below_drew1 | refine below_set ?_ GE480.out | refine below_set ?_ GE481.out) | exact HB.out)⟩
                  · rw [if_neg c32] at H
                    have c32b0 : (a0_3.toList == ([42] : List UInt8)) = false := beq_eq_false_iff_ne.mpr c32
                    have c32b1 : (a0_3.toList != ([42] : List UInt8)) = true := bne_iff_ne.mpr c32
                    simp only [Option.some.injEq, Prod.mk.injEq] at H
                    obtain ⟨rfl, rfl⟩ := H
                    have hnb36 := NB480_481.out
                    have hnc36 := NB481_480.out
                    have hcz37_0 : wc.cell? ⟨gb480, 0, none⟩ = some (.string a0_0) := (blk_cell BK480.out 0).trans rfl
                    have hcz37_1 : wc.cell? ⟨gb480, 1, none⟩ = some (.string a0_1) := (blk_cell BK480.out 1).trans rfl
                    have hcz37_2 : wc.cell? ⟨gb480, 2, none⟩ = some (.int .i64 a0_2) := (blk_cell BK480.out 2).trans rfl
                    have hcz37_3 : wc.cell? ⟨gb480, 3, none⟩ = some (.string a0_3) := (blk_cell BK480.out 3).trans rfl
                    have hcz37_4 : wc.cell? ⟨gb480, 4, none⟩ = some (.int .i64 a0_4) := (blk_cell BK480.out 4).trans rfl
                    have hfz37_0 := blk_frozen BK480.out 0
                    have hfz37_1 := blk_frozen BK480.out 1
                    have hfz37_2 := blk_frozen BK480.out 2
                    have hfz37_3 := blk_frozen BK480.out 3
                    have hfz37_4 := blk_frozen BK480.out 4
                    have hcz38_0 : wc.cell? ⟨gb481, 0, none⟩ = some (.string a1_0) := (blk_cell BK481.out 0).trans rfl
                    have hcz38_1 : wc.cell? ⟨gb481, 1, none⟩ = some (.string a1_1) := (blk_cell BK481.out 1).trans rfl
                    have hcz38_2 : wc.cell? ⟨gb481, 2, none⟩ = some (.int .i64 a1_2) := (blk_cell BK481.out 2).trans rfl
                    have hcz38_3 : wc.cell? ⟨gb481, 3, none⟩ = some (.string a1_3) := (blk_cell BK481.out 3).trans rfl
                    have hcz38_4 : wc.cell? ⟨gb481, 4, none⟩ = some (.int .i64 a1_4) := (blk_cell BK481.out 4).trans rfl
                    have hfz38_0 := blk_frozen BK481.out 0
                    have hfz38_1 := blk_frozen BK481.out 1
                    have hfz38_2 := blk_frozen BK481.out 2
                    have hfz38_3 := blk_frozen BK481.out 3
                    have hfz38_4 := blk_frozen BK481.out 4
                    go_wp2_with (first | ((with_reducible refine gate_callee (f := 83) rfl ?_); refine goesL_ (some 18) rfl rfl Try.func83 (by kernel_rfl) rfl #[.string a0_0, .string a1_0] rfl (by (try simp only [List.map_toArray, List.map_cons, List.map_nil]); first | done | rfl | (simp only [List.length_drop, List.length_take]; rfl)) ?_; (with_reducible refine (spec_seMissed.calls kj2 a0_0 a1_0 t484 _ A18.out).mono ?_); rintro e w' ⟨rfl, ⟨nd, rfl⟩⟩; refine ⟨_, rfl, ?_⟩) | (go_at_call 83; (with_reducible refine (spec_seMissed.calls kj2 a0_1 a1_1 t485 _ A20.out).mono ?_); rintro e w' ⟨rfl, ⟨nd, rfl⟩⟩))
                    go_ret2
                    exact ⟨by first | rfl | (simp [errW_none, errW_some] <;> rfl) | (simp [*, errW_none, errW_some] <;> rfl), by repeat (first | (with_reducible first | exact HB.out | apply below_alloc | apply pw_below_drewN | apply below_drew1 | refine below_set ?_ GE480.out | refine below_set ?_ GE481.out) | exact HB.out)⟩
                · rw [if_neg c31] at H
                  have c31b0 : (a0_4 == a1_4) = false := beq_eq_false_iff_ne.mpr c31
                  have c31b1 : (a0_4 != a1_4) = true := bne_iff_ne.mpr c31
                  simp only [Option.some.injEq, Prod.mk.injEq] at H
                  obtain ⟨rfl, rfl⟩ := H
                  have hnb39 := NB480_481.out
                  have hnc39 := NB481_480.out
                  have hcz40_0 : wc.cell? ⟨gb480, 0, none⟩ = some (.string a0_0) := (blk_cell BK480.out 0).trans rfl
                  have hcz40_1 : wc.cell? ⟨gb480, 1, none⟩ = some (.string a0_1) := (blk_cell BK480.out 1).trans rfl
                  have hcz40_2 : wc.cell? ⟨gb480, 2, none⟩ = some (.int .i64 a0_2) := (blk_cell BK480.out 2).trans rfl
                  have hcz40_3 : wc.cell? ⟨gb480, 3, none⟩ = some (.string a0_3) := (blk_cell BK480.out 3).trans rfl
                  have hcz40_4 : wc.cell? ⟨gb480, 4, none⟩ = some (.int .i64 a0_4) := (blk_cell BK480.out 4).trans rfl
                  have hfz40_0 := blk_frozen BK480.out 0
                  have hfz40_1 := blk_frozen BK480.out 1
                  have hfz40_2 := blk_frozen BK480.out 2
                  have hfz40_3 := blk_frozen BK480.out 3
                  have hfz40_4 := blk_frozen BK480.out 4
                  have hcz41_0 : wc.cell? ⟨gb481, 0, none⟩ = some (.string a1_0) := (blk_cell BK481.out 0).trans rfl
                  have hcz41_1 : wc.cell? ⟨gb481, 1, none⟩ = some (.string a1_1) := (blk_cell BK481.out 1).trans rfl
                  have hcz41_2 : wc.cell? ⟨gb481, 2, none⟩ = some (.int .i64 a1_2) := (blk_cell BK481.out 2).trans rfl
                  have hcz41_3 : wc.cell? ⟨gb481, 3, none⟩ = some (.string a1_3) := (blk_cell BK481.out 3).trans rfl
                  have hcz41_4 : wc.cell? ⟨gb481, 4, none⟩ = some (.int .i64 a1_4) := (blk_cell BK481.out 4).trans rfl
                  have hfz41_0 := blk_frozen BK481.out 0
                  have hfz41_1 := blk_frozen BK481.out 1
                  have hfz41_2 := blk_frozen BK481.out 2
                  have hfz41_3 := blk_frozen BK481.out 3
                  have hfz41_4 := blk_frozen BK481.out 4
                  go_wp2_with (first | ((with_reducible refine gate_callee (f := 83) rfl ?_); refine goesL_ (some 18) rfl rfl Try.func83 (by kernel_rfl) rfl #[.string a0_0, .string a1_0] rfl (by (try simp only [List.map_toArray, List.map_cons, List.map_nil]); first | done | rfl | (simp only [List.length_drop, List.length_take]; rfl)) ?_; (with_reducible refine (spec_seMissed.calls kj2 a0_0 a1_0 t484 _ A18.out).mono ?_); rintro e w' ⟨rfl, ⟨nd, rfl⟩⟩; refine ⟨_, rfl, ?_⟩) | (go_at_call 83; (with_reducible refine (spec_seMissed.calls kj2 a0_1 a1_1 t485 _ A20.out).mono ?_); rintro e w' ⟨rfl, ⟨nd, rfl⟩⟩))
                  go_ret2
                  exact ⟨by first | rfl | (simp [errW_none, errW_some] <;> rfl) | (simp [*, errW_none, errW_some] <;> rfl), by repeat (first | (with_reducible first | exact HB.out | apply below_alloc | apply pw_below_drewN | apply below_drew1 | refine below_set ?_ GE480.out | refine below_set ?_ GE481.out) | exact HB.out)⟩
            · rw [if_neg c22] at H
              have c22b0 : decide (a0_2 < 0) = false := decide_eq_false c22
              clear c22
              by_cases c42 : a0_2 = a1_2
              · rw [if_pos c42] at H
                have c42b0 : (a0_2 == a1_2) = true := beq_iff_eq.mpr c42
                have c42b1 : (a0_2 != a1_2) = false := bne_eq_false_iff_eq.mpr c42
                clear c42
                by_cases c43 : a0_4 = 0
                · rw [if_pos c43] at H
                  have c43b0 : (a0_4 == 0) = true := beq_iff_eq.mpr c43
                  have c43b1 : (a0_4 != 0) = false := bne_eq_false_iff_eq.mpr c43
                  clear c43
                  by_cases c44 : a0_3.toList = ([42] : List UInt8)
                  · rw [if_pos c44] at H
                    have c44b0 : (a0_3.toList == ([42] : List UInt8)) = true := beq_iff_eq.mpr c44
                    have c44b1 : (a0_3.toList != ([42] : List UInt8)) = false := bne_eq_false_iff_eq.mpr c44
                    clear c44
                    simp only [Option.some.injEq, Prod.mk.injEq] at H
                    obtain ⟨rfl, rfl⟩ := H
                    have hnb45 := NB480_481.out
                    have hnc45 := NB481_480.out
                    have hcz46_0 : wc.cell? ⟨gb480, 0, none⟩ = some (.string a0_0) := (blk_cell BK480.out 0).trans rfl
                    have hcz46_1 : wc.cell? ⟨gb480, 1, none⟩ = some (.string a0_1) := (blk_cell BK480.out 1).trans rfl
                    have hcz46_2 : wc.cell? ⟨gb480, 2, none⟩ = some (.int .i64 a0_2) := (blk_cell BK480.out 2).trans rfl
                    have hcz46_3 : wc.cell? ⟨gb480, 3, none⟩ = some (.string a0_3) := (blk_cell BK480.out 3).trans rfl
                    have hcz46_4 : wc.cell? ⟨gb480, 4, none⟩ = some (.int .i64 a0_4) := (blk_cell BK480.out 4).trans rfl
                    have hfz46_0 := blk_frozen BK480.out 0
                    have hfz46_1 := blk_frozen BK480.out 1
                    have hfz46_2 := blk_frozen BK480.out 2
                    have hfz46_3 := blk_frozen BK480.out 3
                    have hfz46_4 := blk_frozen BK480.out 4
                    have hcz47_0 : wc.cell? ⟨gb481, 0, none⟩ = some (.string a1_0) := (blk_cell BK481.out 0).trans rfl
                    have hcz47_1 : wc.cell? ⟨gb481, 1, none⟩ = some (.string a1_1) := (blk_cell BK481.out 1).trans rfl
                    have hcz47_2 : wc.cell? ⟨gb481, 2, none⟩ = some (.int .i64 a1_2) := (blk_cell BK481.out 2).trans rfl
                    have hcz47_3 : wc.cell? ⟨gb481, 3, none⟩ = some (.string a1_3) := (blk_cell BK481.out 3).trans rfl
                    have hcz47_4 : wc.cell? ⟨gb481, 4, none⟩ = some (.int .i64 a1_4) := (blk_cell BK481.out 4).trans rfl
                    have hfz47_0 := blk_frozen BK481.out 0
                    have hfz47_1 := blk_frozen BK481.out 1
                    have hfz47_2 := blk_frozen BK481.out 2
                    have hfz47_3 := blk_frozen BK481.out 3
                    have hfz47_4 := blk_frozen BK481.out 4
                    go_wp2_with (first | ((with_reducible refine gate_callee (f := 83) rfl ?_); refine goesL_ (some 18) rfl rfl Try.func83 (by kernel_rfl) rfl #[.string a0_0, .string a1_0] rfl (by (try simp only [List.map_toArray, List.map_cons, List.map_nil]); first | done | rfl | (simp only [List.length_drop, List.length_take]; rfl)) ?_; (with_reducible refine (spec_seMissed.calls kj2 a0_0 a1_0 t484 _ A18.out).mono ?_); rintro e w' ⟨rfl, ⟨nd, rfl⟩⟩; refine ⟨_, rfl, ?_⟩) | (go_at_call 83; (with_reducible refine (spec_seMissed.calls kj2 a0_1 a1_1 t485 _ A20.out).mono ?_); rintro e w' ⟨rfl, ⟨nd, rfl⟩⟩))
                    go_ret2
                    exact ⟨by first | rfl | (simp [errW_none, errW_some] <;> rfl) | (simp [*, errW_none, errW_some] <;> rfl), by repeat (first | (with_reducible first | exact HB.out | apply below_alloc | apply pw_below_drewN | apply below_drew1 | refine below_set ?_ GE480.out | refine below_set ?_ GE481.out) | exact HB.out)⟩
                  · rw [if_neg c44] at H
                    have c44b0 : (a0_3.toList == ([42] : List UInt8)) = false := beq_eq_false_iff_ne.mpr c44
                    have c44b1 : (a0_3.toList != ([42] : List UInt8)) = true := bne_iff_ne.mpr c44
                    simp only [Option.some.injEq, Prod.mk.injEq] at H
                    obtain ⟨rfl, rfl⟩ := H
                    have hnb48 := NB480_481.out
                    have hnc48 := NB481_480.out
                    have hcz49_0 : wc.cell? ⟨gb480, 0, none⟩ = some (.string a0_0) := (blk_cell BK480.out 0).trans rfl
                    have hcz49_1 : wc.cell? ⟨gb480, 1, none⟩ = some (.string a0_1) := (blk_cell BK480.out 1).trans rfl
                    have hcz49_2 : wc.cell? ⟨gb480, 2, none⟩ = some (.int .i64 a0_2) := (blk_cell BK480.out 2).trans rfl
                    have hcz49_3 : wc.cell? ⟨gb480, 3, none⟩ = some (.string a0_3) := (blk_cell BK480.out 3).trans rfl
                    have hcz49_4 : wc.cell? ⟨gb480, 4, none⟩ = some (.int .i64 a0_4) := (blk_cell BK480.out 4).trans rfl
                    have hfz49_0 := blk_frozen BK480.out 0
                    have hfz49_1 := blk_frozen BK480.out 1
                    have hfz49_2 := blk_frozen BK480.out 2
                    have hfz49_3 := blk_frozen BK480.out 3
                    have hfz49_4 := blk_frozen BK480.out 4
                    have hcz50_0 : wc.cell? ⟨gb481, 0, none⟩ = some (.string a1_0) := (blk_cell BK481.out 0).trans rfl
                    have hcz50_1 : wc.cell? ⟨gb481, 1, none⟩ = some (.string a1_1) := (blk_cell BK481.out 1).trans rfl
                    have hcz50_2 : wc.cell? ⟨gb481, 2, none⟩ = some (.int .i64 a1_2) := (blk_cell BK481.out 2).trans rfl
                    have hcz50_3 : wc.cell? ⟨gb481, 3, none⟩ = some (.string a1_3) := (blk_cell BK481.out 3).trans rfl
                    have hcz50_4 : wc.cell? ⟨gb481, 4, none⟩ = some (.int .i64 a1_4) := (blk_cell BK481.out 4).trans rfl
                    have hfz50_0 := blk_frozen BK481.out 0
                    have hfz50_1 := blk_frozen BK481.out 1
                    have hfz50_2 := blk_frozen BK481.out 2
                    have hfz50_3 := blk_frozen BK481.out 3
                    have hfz50_4 := blk_frozen BK481.out 4
                    go_wp2_with (first | ((with_reducible refine gate_callee (f := 83) rfl ?_); refine goesL_ (some 18) rfl rfl Try.func83 (by kernel_rfl) rfl #[.string a0_0, .string a1_0] rfl (by (try simp only [List.map_toArray, List.map_cons, List.map_nil]); first | done | rfl | (simp only [List.length_drop, List.length_take]; rfl)) ?_; (with_reducible refine (spec_seMissed.calls kj2 a0_0 a1_0 t484 _ A18.out).mono ?_); rintro e w' ⟨rfl, ⟨nd, rfl⟩⟩; refine ⟨_, rfl, ?_⟩) | (go_at_call 83; (with_reducible refine (spec_seMissed.calls kj2 a0_1 a1_1 t485 _ A20.out).mono ?_); rintro e w' ⟨rfl, ⟨nd, rfl⟩⟩))
                    go_ret2
                    exact ⟨by first | rfl | (simp [errW_none, errW_some] <;> rfl) | (simp [*, errW_none, errW_some] <;> rfl), by repeat (first | (with_reducible first | exact HB.out | apply below_alloc | apply pw_below_drewN | apply below_drew1 | refine below_set ?_ GE480.out | refine below_set ?_ GE481.out) | exact HB.out)⟩
                · rw [if_neg c43] at H
                  have c43b0 : (a0_4 == 0) = false := beq_eq_false_iff_ne.mpr c43
                  have c43b1 : (a0_4 != 0) = true := bne_iff_ne.mpr c43
                  by_cases c51 : a0_4 = a1_4
                  · rw [if_pos c51] at H
                    have c51b0 : (a0_4 == a1_4) = true := beq_iff_eq.mpr c51
                    have c51b1 : (a0_4 != a1_4) = false := bne_eq_false_iff_eq.mpr c51
                    clear c51
                    by_cases c52 : a0_3.toList = ([42] : List UInt8)
                    · rw [if_pos c52] at H
                      have c52b0 : (a0_3.toList == ([42] : List UInt8)) = true := beq_iff_eq.mpr c52
                      have c52b1 : (a0_3.toList != ([42] : List UInt8)) = false := bne_eq_false_iff_eq.mpr c52
                      clear c52
                      simp only [Option.some.injEq, Prod.mk.injEq] at H
                      obtain ⟨rfl, rfl⟩ := H
                      have hnb53 := NB480_481.out
                      have hnc53 := NB481_480.out
                      have hcz54_0 : wc.cell? ⟨gb480, 0, none⟩ = some (.string a0_0) := (blk_cell BK480.out 0).trans rfl
                      have hcz54_1 : wc.cell? ⟨gb480, 1, none⟩ = some (.string a0_1) := (blk_cell BK480.out 1).trans rfl
                      have hcz54_2 : wc.cell? ⟨gb480, 2, none⟩ = some (.int .i64 a0_2) := (blk_cell BK480.out 2).trans rfl
                      have hcz54_3 : wc.cell? ⟨gb480, 3, none⟩ = some (.string a0_3) := (blk_cell BK480.out 3).trans rfl
                      have hcz54_4 : wc.cell? ⟨gb480, 4, none⟩ = some (.int .i64 a0_4) := (blk_cell BK480.out 4).trans rfl
                      have hfz54_0 := blk_frozen BK480.out 0
                      have hfz54_1 := blk_frozen BK480.out 1
                      have hfz54_2 := blk_frozen BK480.out 2
                      have hfz54_3 := blk_frozen BK480.out 3
                      have hfz54_4 := blk_frozen BK480.out 4
                      have hcz55_0 : wc.cell? ⟨gb481, 0, none⟩ = some (.string a1_0) := (blk_cell BK481.out 0).trans rfl
                      have hcz55_1 : wc.cell? ⟨gb481, 1, none⟩ = some (.string a1_1) := (blk_cell BK481.out 1).trans rfl
                      have hcz55_2 : wc.cell? ⟨gb481, 2, none⟩ = some (.int .i64 a1_2) := (blk_cell BK481.out 2).trans rfl
                      have hcz55_3 : wc.cell? ⟨gb481, 3, none⟩ = some (.string a1_3) := (blk_cell BK481.out 3).trans rfl
                      have hcz55_4 : wc.cell? ⟨gb481, 4, none⟩ = some (.int .i64 a1_4) := (blk_cell BK481.out 4).trans rfl
                      have hfz55_0 := blk_frozen BK481.out 0
                      have hfz55_1 := blk_frozen BK481.out 1
                      have hfz55_2 := blk_frozen BK481.out 2
                      have hfz55_3 := blk_frozen BK481.out 3
                      have hfz55_4 := blk_frozen BK481.out 4
                      go_wp2_with (first | ((with_reducible refine gate_callee (f := 83) rfl ?_); refine goesL_ (some 18) rfl rfl Try.func83 (by kernel_rfl) rfl #[.string a0_0, .string a1_0] rfl (by (try simp only [List.map_toArray, List.map_cons, List.map_nil]); first | done | rfl | (simp only [List.length_drop, List.length_take]; rfl)) ?_; (with_reducible refine (spec_seMissed.calls kj2 a0_0 a1_0 t484 _ A18.out).mono ?_); rintro e w' ⟨rfl, ⟨nd, rfl⟩⟩; refine ⟨_, rfl, ?_⟩) | (go_at_call 83; (with_reducible refine (spec_seMissed.calls kj2 a0_1 a1_1 t485 _ A20.out).mono ?_); rintro e w' ⟨rfl, ⟨nd, rfl⟩⟩))
                      go_ret2
                      exact ⟨by first | rfl | (simp [errW_none, errW_some] <;> rfl) | (simp [*, errW_none, errW_some] <;> rfl), by repeat (first | (with_reducible first | exact HB.out | apply below_alloc | apply pw_below_drewN | apply below_drew1 | refine below_set ?_ GE480.out | refine below_set ?_ GE481.out) | exact HB.out)⟩
                    · rw [if_neg c52] at H
                      have c52b0 : (a0_3.toList == ([42] : List UInt8)) = false := beq_eq_false_iff_ne.mpr c52
                      have c52b1 : (a0_3.toList != ([42] : List UInt8)) = true := bne_iff_ne.mpr c52
                      simp only [Option.some.injEq, Prod.mk.injEq] at H
                      obtain ⟨rfl, rfl⟩ := H
                      have hnb56 := NB480_481.out
                      have hnc56 := NB481_480.out
                      have hcz57_0 : wc.cell? ⟨gb480, 0, none⟩ = some (.string a0_0) := (blk_cell BK480.out 0).trans rfl
                      have hcz57_1 : wc.cell? ⟨gb480, 1, none⟩ = some (.string a0_1) := (blk_cell BK480.out 1).trans rfl
                      have hcz57_2 : wc.cell? ⟨gb480, 2, none⟩ = some (.int .i64 a0_2) := (blk_cell BK480.out 2).trans rfl
                      have hcz57_3 : wc.cell? ⟨gb480, 3, none⟩ = some (.string a0_3) := (blk_cell BK480.out 3).trans rfl
                      have hcz57_4 : wc.cell? ⟨gb480, 4, none⟩ = some (.int .i64 a0_4) := (blk_cell BK480.out 4).trans rfl
                      have hfz57_0 := blk_frozen BK480.out 0
                      have hfz57_1 := blk_frozen BK480.out 1
                      have hfz57_2 := blk_frozen BK480.out 2
                      have hfz57_3 := blk_frozen BK480.out 3
                      have hfz57_4 := blk_frozen BK480.out 4
                      have hcz58_0 : wc.cell? ⟨gb481, 0, none⟩ = some (.string a1_0) := (blk_cell BK481.out 0).trans rfl
                      have hcz58_1 : wc.cell? ⟨gb481, 1, none⟩ = some (.string a1_1) := (blk_cell BK481.out 1).trans rfl
                      have hcz58_2 : wc.cell? ⟨gb481, 2, none⟩ = some (.int .i64 a1_2) := (blk_cell BK481.out 2).trans rfl
                      have hcz58_3 : wc.cell? ⟨gb481, 3, none⟩ = some (.string a1_3) := (blk_cell BK481.out 3).trans rfl
                      have hcz58_4 : wc.cell? ⟨gb481, 4, none⟩ = some (.int .i64 a1_4) := (blk_cell BK481.out 4).trans rfl
                      have hfz58_0 := blk_frozen BK481.out 0
                      have hfz58_1 := blk_frozen BK481.out 1
                      have hfz58_2 := blk_frozen BK481.out 2
                      have hfz58_3 := blk_frozen BK481.out 3
                      have hfz58_4 := blk_frozen BK481.out 4
                      go_wp2_with (first | ((with_reducible refine gate_callee (f := 83) rfl ?_); refine goesL_ (some 18) rfl rfl Try.func83 (by kernel_rfl) rfl #[.string a0_0, .string a1_0] rfl (by (try simp only [List.map_toArray, List.map_cons, List.map_nil]); first | done | rfl | (simp only [List.length_drop, List.length_take]; rfl)) ?_; (with_reducible refine (spec_seMissed.calls kj2 a0_0 a1_0 t484 _ A18.out).mono ?_); rintro e w' ⟨rfl, ⟨nd, rfl⟩⟩; refine ⟨_, rfl, ?_⟩) | (go_at_call 83; (with_reducible refine (spec_seMissed.calls kj2 a0_1 a1_1 t485 _ A20.out).mono ?_); rintro e w' ⟨rfl, ⟨nd, rfl⟩⟩))
                      go_ret2
                      exact ⟨by first | rfl | (simp [errW_none, errW_some] <;> rfl) | (simp [*, errW_none, errW_some] <;> rfl), by repeat (first | (with_reducible first | exact HB.out | apply below_alloc | apply pw_below_drewN | apply below_drew1 | refine below_set ?_ GE480.out | refine below_set ?_ GE481.out) | exact HB.out)⟩
                  · rw [if_neg c51] at H
                    have c51b0 : (a0_4 == a1_4) = false := beq_eq_false_iff_ne.mpr c51
                    have c51b1 : (a0_4 != a1_4) = true := bne_iff_ne.mpr c51
                    simp only [Option.some.injEq, Prod.mk.injEq] at H
                    obtain ⟨rfl, rfl⟩ := H
                    have hnb59 := NB480_481.out
                    have hnc59 := NB481_480.out
                    have hcz60_0 : wc.cell? ⟨gb480, 0, none⟩ = some (.string a0_0) := (blk_cell BK480.out 0).trans rfl
                    have hcz60_1 : wc.cell? ⟨gb480, 1, none⟩ = some (.string a0_1) := (blk_cell BK480.out 1).trans rfl
                    have hcz60_2 : wc.cell? ⟨gb480, 2, none⟩ = some (.int .i64 a0_2) := (blk_cell BK480.out 2).trans rfl
                    have hcz60_3 : wc.cell? ⟨gb480, 3, none⟩ = some (.string a0_3) := (blk_cell BK480.out 3).trans rfl
                    have hcz60_4 : wc.cell? ⟨gb480, 4, none⟩ = some (.int .i64 a0_4) := (blk_cell BK480.out 4).trans rfl
                    have hfz60_0 := blk_frozen BK480.out 0
                    have hfz60_1 := blk_frozen BK480.out 1
                    have hfz60_2 := blk_frozen BK480.out 2
                    have hfz60_3 := blk_frozen BK480.out 3
                    have hfz60_4 := blk_frozen BK480.out 4
                    have hcz61_0 : wc.cell? ⟨gb481, 0, none⟩ = some (.string a1_0) := (blk_cell BK481.out 0).trans rfl
                    have hcz61_1 : wc.cell? ⟨gb481, 1, none⟩ = some (.string a1_1) := (blk_cell BK481.out 1).trans rfl
                    have hcz61_2 : wc.cell? ⟨gb481, 2, none⟩ = some (.int .i64 a1_2) := (blk_cell BK481.out 2).trans rfl
                    have hcz61_3 : wc.cell? ⟨gb481, 3, none⟩ = some (.string a1_3) := (blk_cell BK481.out 3).trans rfl
                    have hcz61_4 : wc.cell? ⟨gb481, 4, none⟩ = some (.int .i64 a1_4) := (blk_cell BK481.out 4).trans rfl
                    have hfz61_0 := blk_frozen BK481.out 0
                    have hfz61_1 := blk_frozen BK481.out 1
                    have hfz61_2 := blk_frozen BK481.out 2
                    have hfz61_3 := blk_frozen BK481.out 3
                    have hfz61_4 := blk_frozen BK481.out 4
                    go_wp2_with (first | ((with_reducible refine gate_callee (f := 83) rfl ?_); refine goesL_ (some 18) rfl rfl Try.func83 (by kernel_rfl) rfl #[.string a0_0, .string a1_0] rfl (by (try simp only [List.map_toArray, List.map_cons, List.map_nil]); first | done | rfl | (simp only [List.length_drop, List.length_take]; rfl)) ?_; (with_reducible refine (spec_seMissed.calls kj2 a0_0 a1_0 t484 _ A18.out).mono ?_); rintro e w' ⟨rfl, ⟨nd, rfl⟩⟩; refine ⟨_, rfl, ?_⟩) | (go_at_call 83; (with_reducible refine (spec_seMissed.calls kj2 a0_1 a1_1 t485 _ A20.out).mono ?_); rintro e w' ⟨rfl, ⟨nd, rfl⟩⟩))
                    go_ret2
                    exact ⟨by first | rfl | (simp [errW_none, errW_some] <;> rfl) | (simp [*, errW_none, errW_some] <;> rfl), by repeat (first | (with_reducible first | exact HB.out | apply below_alloc | apply pw_below_drewN | apply below_drew1 | refine below_set ?_ GE480.out | refine below_set ?_ GE481.out) | exact HB.out)⟩
              · rw [if_neg c42] at H
                have c42b0 : (a0_2 == a1_2) = false := beq_eq_false_iff_ne.mpr c42
                have c42b1 : (a0_2 != a1_2) = true := bne_iff_ne.mpr c42
                simp only [Option.some.injEq, Prod.mk.injEq] at H
                obtain ⟨rfl, rfl⟩ := H
                have hnb62 := NB480_481.out
                have hnc62 := NB481_480.out
                have hcz63_0 : wc.cell? ⟨gb480, 0, none⟩ = some (.string a0_0) := (blk_cell BK480.out 0).trans rfl
                have hcz63_1 : wc.cell? ⟨gb480, 1, none⟩ = some (.string a0_1) := (blk_cell BK480.out 1).trans rfl
                have hcz63_2 : wc.cell? ⟨gb480, 2, none⟩ = some (.int .i64 a0_2) := (blk_cell BK480.out 2).trans rfl
                have hcz63_3 : wc.cell? ⟨gb480, 3, none⟩ = some (.string a0_3) := (blk_cell BK480.out 3).trans rfl
                have hcz63_4 : wc.cell? ⟨gb480, 4, none⟩ = some (.int .i64 a0_4) := (blk_cell BK480.out 4).trans rfl
                have hfz63_0 := blk_frozen BK480.out 0
                have hfz63_1 := blk_frozen BK480.out 1
                have hfz63_2 := blk_frozen BK480.out 2
                have hfz63_3 := blk_frozen BK480.out 3
                have hfz63_4 := blk_frozen BK480.out 4
                have hcz64_0 : wc.cell? ⟨gb481, 0, none⟩ = some (.string a1_0) := (blk_cell BK481.out 0).trans rfl
                have hcz64_1 : wc.cell? ⟨gb481, 1, none⟩ = some (.string a1_1) := (blk_cell BK481.out 1).trans rfl
                have hcz64_2 : wc.cell? ⟨gb481, 2, none⟩ = some (.int .i64 a1_2) := (blk_cell BK481.out 2).trans rfl
                have hcz64_3 : wc.cell? ⟨gb481, 3, none⟩ = some (.string a1_3) := (blk_cell BK481.out 3).trans rfl
                have hcz64_4 : wc.cell? ⟨gb481, 4, none⟩ = some (.int .i64 a1_4) := (blk_cell BK481.out 4).trans rfl
                have hfz64_0 := blk_frozen BK481.out 0
                have hfz64_1 := blk_frozen BK481.out 1
                have hfz64_2 := blk_frozen BK481.out 2
                have hfz64_3 := blk_frozen BK481.out 3
                have hfz64_4 := blk_frozen BK481.out 4
                go_wp2_with (first | ((with_reducible refine gate_callee (f := 83) rfl ?_); refine goesL_ (some 18) rfl rfl Try.func83 (by kernel_rfl) rfl #[.string a0_0, .string a1_0] rfl (by (try simp only [List.map_toArray, List.map_cons, List.map_nil]); first | done | rfl | (simp only [List.length_drop, List.length_take]; rfl)) ?_; (with_reducible refine (spec_seMissed.calls kj2 a0_0 a1_0 t484 _ A18.out).mono ?_); rintro e w' ⟨rfl, ⟨nd, rfl⟩⟩; refine ⟨_, rfl, ?_⟩) | (go_at_call 83; (with_reducible refine (spec_seMissed.calls kj2 a0_1 a1_1 t485 _ A20.out).mono ?_); rintro e w' ⟨rfl, ⟨nd, rfl⟩⟩))
                go_ret2
                exact ⟨by first | rfl | (simp [errW_none, errW_some] <;> rfl) | (simp [*, errW_none, errW_some] <;> rfl), by repeat (first | (with_reducible first | exact HB.out | apply below_alloc | apply pw_below_drewN | apply below_drew1 | refine below_set ?_ GE480.out | refine below_set ?_ GE481.out) | exact HB.out)⟩
          · rw [if_neg c21] at H
            have c21b0 : (t485 == 0) = false := beq_eq_false_iff_ne.mpr c21
            have c21b1 : (t485 != 0) = true := bne_iff_ne.mpr c21
            simp only [Option.some.injEq, Prod.mk.injEq] at H
            obtain ⟨rfl, rfl⟩ := H
            have hnb65 := NB480_481.out
            have hnc65 := NB481_480.out
            have hcz66_0 : wc.cell? ⟨gb480, 0, none⟩ = some (.string a0_0) := (blk_cell BK480.out 0).trans rfl
            have hcz66_1 : wc.cell? ⟨gb480, 1, none⟩ = some (.string a0_1) := (blk_cell BK480.out 1).trans rfl
            have hcz66_2 : wc.cell? ⟨gb480, 2, none⟩ = some (.int .i64 a0_2) := (blk_cell BK480.out 2).trans rfl
            have hcz66_3 : wc.cell? ⟨gb480, 3, none⟩ = some (.string a0_3) := (blk_cell BK480.out 3).trans rfl
            have hcz66_4 : wc.cell? ⟨gb480, 4, none⟩ = some (.int .i64 a0_4) := (blk_cell BK480.out 4).trans rfl
            have hfz66_0 := blk_frozen BK480.out 0
            have hfz66_1 := blk_frozen BK480.out 1
            have hfz66_2 := blk_frozen BK480.out 2
            have hfz66_3 := blk_frozen BK480.out 3
            have hfz66_4 := blk_frozen BK480.out 4
            have hcz67_0 : wc.cell? ⟨gb481, 0, none⟩ = some (.string a1_0) := (blk_cell BK481.out 0).trans rfl
            have hcz67_1 : wc.cell? ⟨gb481, 1, none⟩ = some (.string a1_1) := (blk_cell BK481.out 1).trans rfl
            have hcz67_2 : wc.cell? ⟨gb481, 2, none⟩ = some (.int .i64 a1_2) := (blk_cell BK481.out 2).trans rfl
            have hcz67_3 : wc.cell? ⟨gb481, 3, none⟩ = some (.string a1_3) := (blk_cell BK481.out 3).trans rfl
            have hcz67_4 : wc.cell? ⟨gb481, 4, none⟩ = some (.int .i64 a1_4) := (blk_cell BK481.out 4).trans rfl
            have hfz67_0 := blk_frozen BK481.out 0
            have hfz67_1 := blk_frozen BK481.out 1
            have hfz67_2 := blk_frozen BK481.out 2
            have hfz67_3 := blk_frozen BK481.out 3
            have hfz67_4 := blk_frozen BK481.out 4
            go_wp2_with (first | ((with_reducible refine gate_callee (f := 83) rfl ?_); refine goesL_ (some 18) rfl rfl Try.func83 (by kernel_rfl) rfl #[.string a0_0, .string a1_0] rfl (by (try simp only [List.map_toArray, List.map_cons, List.map_nil]); first | done | rfl | (simp only [List.length_drop, List.length_take]; rfl)) ?_; (with_reducible refine (spec_seMissed.calls kj2 a0_0 a1_0 t484 _ A18.out).mono ?_); rintro e w' ⟨rfl, ⟨nd, rfl⟩⟩; refine ⟨_, rfl, ?_⟩) | (go_at_call 83; (with_reducible refine (spec_seMissed.calls kj2 a0_1 a1_1 t485 _ A20.out).mono ?_); rintro e w' ⟨rfl, ⟨nd, rfl⟩⟩))
            go_ret2
            exact ⟨by first | rfl | (simp [errW_none, errW_some] <;> rfl) | (simp [*, errW_none, errW_some] <;> rfl), by repeat (first | (with_reducible first | exact HB.out | apply below_alloc | apply pw_below_drewN | apply below_drew1 | refine below_set ?_ GE480.out | refine below_set ?_ GE481.out) | exact HB.out)⟩
        · rw [if_neg c19] at H
          have c19b0 : (t484 == 0) = false := beq_eq_false_iff_ne.mpr c19
          have c19b1 : (t484 != 0) = true := bne_iff_ne.mpr c19
          simp only [Option.some.injEq, Prod.mk.injEq] at H
          obtain ⟨rfl, rfl⟩ := H
          have hnb68 := NB480_481.out
          have hnc68 := NB481_480.out
          have hcz69_0 : wc.cell? ⟨gb480, 0, none⟩ = some (.string a0_0) := (blk_cell BK480.out 0).trans rfl
          have hcz69_1 : wc.cell? ⟨gb480, 1, none⟩ = some (.string a0_1) := (blk_cell BK480.out 1).trans rfl
          have hcz69_2 : wc.cell? ⟨gb480, 2, none⟩ = some (.int .i64 a0_2) := (blk_cell BK480.out 2).trans rfl
          have hcz69_3 : wc.cell? ⟨gb480, 3, none⟩ = some (.string a0_3) := (blk_cell BK480.out 3).trans rfl
          have hcz69_4 : wc.cell? ⟨gb480, 4, none⟩ = some (.int .i64 a0_4) := (blk_cell BK480.out 4).trans rfl
          have hfz69_0 := blk_frozen BK480.out 0
          have hfz69_1 := blk_frozen BK480.out 1
          have hfz69_2 := blk_frozen BK480.out 2
          have hfz69_3 := blk_frozen BK480.out 3
          have hfz69_4 := blk_frozen BK480.out 4
          have hcz70_0 : wc.cell? ⟨gb481, 0, none⟩ = some (.string a1_0) := (blk_cell BK481.out 0).trans rfl
          have hcz70_1 : wc.cell? ⟨gb481, 1, none⟩ = some (.string a1_1) := (blk_cell BK481.out 1).trans rfl
          have hcz70_2 : wc.cell? ⟨gb481, 2, none⟩ = some (.int .i64 a1_2) := (blk_cell BK481.out 2).trans rfl
          have hcz70_3 : wc.cell? ⟨gb481, 3, none⟩ = some (.string a1_3) := (blk_cell BK481.out 3).trans rfl
          have hcz70_4 : wc.cell? ⟨gb481, 4, none⟩ = some (.int .i64 a1_4) := (blk_cell BK481.out 4).trans rfl
          have hfz70_0 := blk_frozen BK481.out 0
          have hfz70_1 := blk_frozen BK481.out 1
          have hfz70_2 := blk_frozen BK481.out 2
          have hfz70_3 := blk_frozen BK481.out 3
          have hfz70_4 := blk_frozen BK481.out 4
          go_wp2_with (first | ((with_reducible refine gate_callee (f := 83) rfl ?_); refine goesL_ (some 18) rfl rfl Try.func83 (by kernel_rfl) rfl #[.string a0_0, .string a1_0] rfl (by (try simp only [List.map_toArray, List.map_cons, List.map_nil]); first | done | rfl | (simp only [List.length_drop, List.length_take]; rfl)) ?_; (with_reducible refine (spec_seMissed.calls kj2 a0_0 a1_0 t484 _ A18.out).mono ?_); rintro e w' ⟨rfl, ⟨nd, rfl⟩⟩; refine ⟨_, rfl, ?_⟩))
          go_ret2
          exact ⟨by first | rfl | (simp [errW_none, errW_some] <;> rfl) | (simp [*, errW_none, errW_some] <;> rfl), by repeat (first | (with_reducible first | exact HB.out | apply below_alloc | apply pw_below_drewN | apply below_drew1 | refine below_set ?_ GE480.out | refine below_set ?_ GE481.out) | exact HB.out)⟩

end Go.Proofs.Ytkhaofalaikegaa.FA
