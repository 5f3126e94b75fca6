-- laid by pr.py (wip/tools) over the kit's printer; Lean checks it
import Derived.Test.YtmjejlifohghjaaFCx0
import Derived.Test.YtmjejlifohghjaaFCx2
import Derived.Test.YtmjejlifohghjaaFCx9
namespace Go.Proofs.Ytmjejlifohghjaa.FC
open Go.RowKit Go.Proofs.YtmjejlifohghjaaW.PrintWords Go.Proofs.YtmjejlifohghjaaW.PrintLast Go.Proofs.YtmjejlifohghjaaW.PrintMore
attribute [local go_sem] max2_int min2_int max_two min_two max_three min_three max_four min_four   -- for this text's walks alone
set_option linter.unusedVariables false
set_option linter.unusedSimpArgs false

/-! ### spec_PlacesWithin: function 31 -/
mutual
def spec_PlacesWithin.j0 : Nat → Int → Bool → Int → Int → Bool → Option ((List (S25)) × Bool)
  | 0, _, _, _, _, _ => none
  | k + 1, x1, x16, x180000, x180001, x180002 => if x16 = true then (some (([] : List (S25)), false)) else ((spec_plAll.f k).bind fun t182 => (spec_PlacesWithin.l0 k x1 ([] : List (S25)) t182 (t182.length : Int) 0 x180000 x180001 x180002))
def spec_PlacesWithin.l0 : Nat → Int → List (S25) → List (S25) → Int → Int → Int → Int → Bool → Option ((List (S25)) × Bool)
  | 0, _, _, _, _, _, _, _, _ => none
  | k + 1, x1, x6, x17, x18, x19, x180000, x180001, x180002 => if x19 < x18 then (if 0 ≤ x19 then (if x19 < (x17.length : Int) then ((spec_plFar.f x180000 x180001 x180002 ((rd_T25 x17 x19).f0) ((rd_T25 x17 x19).f1) ((rd_T25 x17 x19).f2)).bind fun t187 => (if t187 ≤ x1 then (if x6.length < 5864062014805 then (spec_PlacesWithin.l0 k x1 (x6 ++ [(⟨(rd_T25 x17 x19).f0, (rd_T25 x17 x19).f1, (rd_T25 x17 x19).f2⟩ : S25)]) x17 x18 (wrap64 (x19 + 1)) x180000 x180001 x180002) else (none)) else (spec_PlacesWithin.l0 k x1 x6 x17 x18 (wrap64 (x19 + 1)) x180000 x180001 x180002))) else (none)) else (none)) else (some (x6, true))
end
def spec_PlacesWithin.f (k : Nat) (a0_0 : Int) (a0_1 : Int) (a0_2 : Bool) (a1 : Int) : Option ((List (S25)) × Bool) := (spec_plGood.f a0_0 a0_1 a0_2).bind fun t180 => (if t180 = true then ((spec_l1In.f a1 0 5).bind fun t181 => (spec_PlacesWithin.j0 k a1 (!t181) a0_0 a0_1 a0_2)) else (spec_PlacesWithin.j0 k a1 true a0_0 a0_1 a0_2))
theorem spec_PlacesWithin.mono_l : ∀ k, (∀ y0 y1 y2 y3 y4, LeO (spec_PlacesWithin.j0 k y0 y1 y2 y3 y4) (spec_PlacesWithin.j0 (k + 1) y0 y1 y2 y3 y4)) ∧ (∀ y0 y1 y2 y3 y4 y5 y6 y7, LeO (spec_PlacesWithin.l0 k y0 y1 y2 y3 y4 y5 y6 y7) (spec_PlacesWithin.l0 (k + 1) y0 y1 y2 y3 y4 y5 y6 y7))
  | 0 => ⟨fun _ _ _ _ _ r h => by simp [spec_PlacesWithin.j0] at h, fun _ _ _ _ _ _ _ _ r h => by simp [spec_PlacesWithin.l0] at h⟩
  | k + 1 => by
    obtain ⟨ih0, ih1⟩ := spec_PlacesWithin.mono_l k
    refine ⟨?_, ?_⟩
    · intro y0 y1 y2 y3 y4
      unfold spec_PlacesWithin.j0
      repeat' first
      | (with_reducible exact ih0 _ _ _ _ _)
      | (with_reducible exact ih1 _ _ _ _ _ _ _ _)
      | (with_reducible exact spec_plAll.mono _)
      | (with_reducible exact LeO.refl _)
      | (with_reducible exact LeO.none _)
      | (with_reducible refine LeO.ite ?_ ?_)
      | (with_reducible refine LeO.bind ?_ (fun _ => ?_))
      | exact ih0 _ _ _ _ _
      | exact ih1 _ _ _ _ _ _ _ _
      | exact spec_plAll.mono _
      | exact LeO.none _
      | refine LeO.ite ?_ ?_
      | refine LeO.bind ?_ (fun _ => ?_)
    · intro y0 y1 y2 y3 y4 y5 y6 y7
      unfold spec_PlacesWithin.l0
      repeat' first
      | (with_reducible exact ih0 _ _ _ _ _)
      | (with_reducible exact ih1 _ _ _ _ _ _ _ _)
      | (with_reducible exact spec_plAll.mono _)
      | (with_reducible exact LeO.refl _)
      | (with_reducible exact LeO.none _)
      | (with_reducible refine LeO.ite ?_ ?_)
      | (with_reducible refine LeO.bind ?_ (fun _ => ?_))
      | exact ih0 _ _ _ _ _
      | exact ih1 _ _ _ _ _ _ _ _
      | exact spec_plAll.mono _
      | exact LeO.none _
      | refine LeO.ite ?_ ?_
      | refine LeO.bind ?_ (fun _ => ?_)
theorem spec_PlacesWithin.mono : ∀ a0 a1 a2 a3 k, LeO (spec_PlacesWithin.f k a0 a1 a2 a3) (spec_PlacesWithin.f (k + 1) a0 a1 a2 a3) := by
  intro a0 a1 a2 a3 k
  obtain ⟨ih0, ih1⟩ := spec_PlacesWithin.mono_l k
  unfold spec_PlacesWithin.f
  repeat' first
    | (with_reducible exact ih0 _ _ _ _ _)
    | (with_reducible exact ih1 _ _ _ _ _ _ _ _)
    | (with_reducible exact spec_plAll.mono _)
    | (with_reducible exact LeO.refl _)
    | (with_reducible exact LeO.none _)
    | (with_reducible refine LeO.ite ?_ ?_)
    | (with_reducible refine LeO.bind ?_ (fun _ => ?_))
    | exact ih0 _ _ _ _ _
    | exact ih1 _ _ _ _ _ _ _ _
    | exact spec_plAll.mono _
    | exact LeO.none _
    | refine LeO.ite ?_ ?_
    | refine LeO.bind ?_ (fun _ => ?_)
set_option maxHeartbeats 8000000 in
set_option maxRecDepth 100000 in
theorem spec_PlacesWithin.calls (k : Nat) (a0_0 : Int) (a0_1 : Int) (a0_2 : Bool) (a1 : Int) (r1 : List (S25)) (r2 : Bool) (w : World) (h : spec_PlacesWithin.f k a0_0 a0_1 a0_2 a1 = some (r1, r2)) :
    Calls Try.prog 31 #[.agg #[.int .i64 a0_0, .int .i64 a0_1, .bool a0_2], .int .i64 a1] w fun e w' => ∃ v0_ : Value, e = .returned (.tuple #[v0_, .bool r2]) ∧ Kd.R k25 25 w' w.heap.size (fun _ => True) v0_ r1 ∧ Below w.heap.size w w' := by
  have hu25 := Try.underlying25
  have HB := Aside0.mk (Below.refl w.heap.size w)
  have H : ((spec_plGood.f a0_0 a0_1 a0_2).bind fun t180 => (if t180 = true then ((spec_l1In.f a1 0 5).bind fun t181 => (spec_PlacesWithin.j0 k a1 (!t181) a0_0 a0_1 a0_2)) else (spec_PlacesWithin.j0 k a1 true a0_0 a0_1 a0_2))) = some (r1, r2) := h
  clear h
  have HC3 := Aside0.mk H
  clear H
  go_enter Try.func31, Try.ntmps31
  go_upto_region 1 with (first | ((with_reducible refine gate_dst (N := 2) rfl ?_); refine box_event ?hg (N := 2) ?hd (cs := #[.int .i64 a0_0, .int .i64 a0_1, .bool a0_2]) (t := 25) ?hr ?_; (case hd => rfl); (case hg => rfl); (case hr => first | (go_simp; done) | (go_simp; rfl)); intro gb179 hg w4 hbox hb; have n0_ := Aside0.mk (below_step (by repeat (first | (with_reducible first | exact HB.out | apply below_alloc | apply pw_below_drewN | apply below_drew1) | exact HB.out)) hb); have n1_ := Aside0.mk (hbox); have n2_ := Aside0.mk ((by rw [hg]; exact (below_size (by repeat (first | (with_reducible first | exact HB.out | apply below_alloc | apply pw_below_drewN | apply below_drew1) | exact HB.out))) : w.heap.size ≤ gb179)); have n3_ := Aside0.mk ((by rw [hg]; exact (below_size (by repeat (first | (with_reducible first | exact HB.out | apply below_alloc | apply pw_below_drewN | apply below_drew1) | exact HB.out))) : w.heap.size ≤ gb179)); clear HB; have HB := n0_; have BK179 := n1_; have GW179 := n2_; have GE179 := n3_; clear n0_ n1_ n2_ n3_; clear hb hbox hg))
  (try simp only [Act.put, List.setIfInBounds_toArray, List.set_cons_zero, List.set_cons_succ])
  go_cut [16] (fun v16 wc => ∃ (kq : Nat) (x16_2 : Bool), v16 = .bool x16_2 ∧ Aside0 (spec_PlacesWithin.j0 kq a1 x16_2 a0_0 a0_1 a0_2 = some (r1, r2)) ∧ Aside0 (kq ≤ k) ∧ Aside0 (wc.heap[gb179]? = some (.cells #[.int .i64 a0_0, .int .i64 a0_1, .bool a0_2] 25 (0, 0))) ∧ Aside0 (Below w.heap.size w wc))
  case first =>
   have H := HC3.out
   clear HC3
   replace H := Option.bind_eq_some_iff.mp H
   obtain ⟨t180, A50, H⟩ := H
   replace H : (if t180 = true then ((spec_l1In.f a1 0 5).bind fun t181 => (spec_PlacesWithin.j0 k a1 (!t181) a0_0 a0_1 a0_2)) else (spec_PlacesWithin.j0 k a1 true a0_0 a0_1 a0_2)) = some (r1, r2) := H
   have A5 := Aside0.mk A50
   clear A50
   refine dite (t180 = true) (fun c6 => ?qp13) (fun c6 => ?qn13)
   case' qp13 =>
    subst c6
    have H1 : ((spec_l1In.f a1 0 5).bind fun t181 => (spec_PlacesWithin.j0 k a1 (!t181) a0_0 a0_1 a0_2)) = some (r1, r2) := by rw [if_pos rfl] at H; exact H
    clear H
    have H := H1
    clear H1
    replace H := Option.bind_eq_some_iff.mp H
    obtain ⟨t181, A70, H⟩ := H
    replace H : (spec_PlacesWithin.j0 k a1 (!t181) a0_0 a0_1 a0_2) = some (r1, r2) := H
    have A7 := Aside0.mk A70
    clear A70
   case' qn13 =>
    replace c6 := Bool.eq_false_iff.mpr c6
    subst c6
    have H1 : (spec_PlacesWithin.j0 k a1 true a0_0 a0_1 a0_2) = some (r1, r2) := by rw [if_neg (show ¬ (false = true) by decide)] at H; exact H
    clear H
    have H := H1
    clear H1
   all_goals
    have H' := Aside0.mk H
    clear H
    have hczx0_0 : w4.cell? ⟨gb179, 0, none⟩ = some (.int .i64 a0_0) := (blk_cell BK179.out 0).trans rfl
    have hczx0_1 : w4.cell? ⟨gb179, 1, none⟩ = some (.int .i64 a0_1) := (blk_cell BK179.out 1).trans rfl
    have hczx0_2 : w4.cell? ⟨gb179, 2, none⟩ = some (.bool a0_2) := (blk_cell BK179.out 2).trans rfl
    have hfzx0_0 := blk_frozen BK179.out 0
    have hfzx0_1 := blk_frozen BK179.out 1
    have hfzx0_2 := blk_frozen BK179.out 2
    go_wp2_with (first | ((with_reducible refine gate_callee (f := 44) rfl ?_); refine goesL_ (some 10) rfl rfl Try.func44 (by kernel_rfl) rfl #[.agg #[.int .i64 a0_0, .int .i64 a0_1, .bool a0_2]] rfl (by (try simp only [List.map_toArray, List.map_cons, List.map_nil]); first | done | rfl | (simp only [List.length_drop, List.length_take]; rfl)) ?_; (with_reducible refine (spec_plGood.calls a0_0 a0_1 a0_2 _ _ A5.out).mono ?_); rintro e wx0 ⟨rfl, hb⟩; refine ⟨_, rfl, ?_⟩; have n0_ := Aside0.mk (blk_below (g := gb179) (o := .cells #[.int .i64 a0_0, .int .i64 a0_1, .bool a0_2] 25 (0, 0)) (by (with_reducible repeat (first | refine blk_drewN ?_ _ | refine blk_drew ?_ | refine blk_alloc ?_ _)); exact BK179.out) hb); have n1_ := Aside0.mk (below_step (by repeat (first | (with_reducible first | exact HB.out | apply below_alloc | apply pw_below_drewN | apply below_drew1 | refine below_set ?_ GE179.out) | exact HB.out)) hb); clear BK179; clear HB; have BK179 := n0_; have HB := n1_; clear n0_ n1_; (try clear hb); (try clear hb2); (try clear hk); (try clear hi)) | (go_at_call 54; (with_reducible refine (spec_l1In.calls a1 0 5 _ _ A7.out).mono ?_); rintro e w' ⟨rfl, ⟨nd, rfl⟩⟩))
   · go_meet
     case rel => exact ⟨_, (true), (by first | rfl | (simp; done) | (simp [*]; done)), H', ⟨by first | omega | exact Nat.le_refl _⟩, ⟨by (with_reducible repeat (first | refine blk_drewN ?_ _ | refine blk_drew ?_ | refine blk_alloc ?_ _)); exact BK179.out⟩, ⟨by repeat (first | (with_reducible first | exact HB.out | apply below_alloc | apply pw_below_drewN | apply below_drew1 | refine below_set ?_ GE179.out) | exact HB.out)⟩⟩
   · go_meet
     case rel => exact ⟨_, (!t181), (by first | rfl | (simp; done) | (simp [*]; done)), H', ⟨by first | omega | exact Nat.le_refl _⟩, ⟨by (with_reducible repeat (first | refine blk_drewN ?_ _ | refine blk_drew ?_ | refine blk_alloc ?_ _)); exact BK179.out⟩, ⟨by repeat (first | (with_reducible first | exact HB.out | apply below_alloc | apply pw_below_drewN | apply below_drew1 | refine below_set ?_ GE179.out) | exact HB.out)⟩⟩
  case rest =>
   clear HC3
   (try clear hcz10_0); (try clear hcz10_1); (try clear hcz10_2); (try clear hcz8_0); (try clear hcz8_1); (try clear hcz8_2); (try clear hfz10_0); (try clear hfz10_1); (try clear hfz10_2); (try clear hfz8_0); (try clear hfz8_1); (try clear hfz8_2)
   obtain ⟨kq, x16_2, rfl, HA, HJ2, BK179, HB⟩ := hcut
   cases kq with
   | zero => exact absurd HA.out (by simp [spec_PlacesWithin.j0])
   | succ kj2 =>
    have H := HA.out
    clear HA
    simp only [spec_PlacesWithin.j0] at H
    by_cases c12 : x16_2 = true
    ·
     subst c12
     have H1 : (some (([] : List (S25)), false)) = some (r1, r2) := by rw [if_pos rfl] at H; exact H
     clear H
     have H := H1
     clear H1
     simp only [Option.some.injEq, Prod.mk.injEq] at H
     obtain ⟨rfl, rfl⟩ := H
     go_wp2
     go_ret2
     exact ⟨_, by first | rfl | (simp [errW_none, errW_some] <;> rfl) | (simp [*, errW_none, errW_some] <;> rfl), by first | exact Kd.R_nil _ _ _ _ _ | exact Kd.N_nil _ _ _ _ _ | exact Kd.V_nil _ _ _ _ _ | exact Kd.Q_nil _ _ _ _ _ | exact Kd.S_nil _ _ _ _ _, by repeat (first | (with_reducible first | exact HB.out | apply below_alloc | apply pw_below_drewN | apply below_drew1 | refine below_set ?_ GE179.out) | exact HB.out)⟩
    ·
     replace c12 := Bool.eq_false_iff.mpr c12
     subst c12
     have H1 : ((spec_plAll.f kj2).bind fun t182 => (spec_PlacesWithin.l0 kj2 a1 ([] : List (S25)) t182 (t182.length : Int) 0 a0_0 a0_1 a0_2)) = some (r1, r2) := by rw [if_neg (show ¬ (false = true) by decide)] at H; exact H
     clear H
     have H := H1
     clear H1
     replace H := Option.bind_eq_some_iff.mp H
     obtain ⟨t182, A130, H⟩ := H
     replace H : (spec_PlacesWithin.l0 kj2 a1 ([] : List (S25)) t182 (t182.length : Int) 0 a0_0 a0_1 a0_2) = some (r1, r2) := H
     have A13 := Aside0.mk A130
     clear A130
     have H' := Aside0.mk H
     clear H
     go_wp2_with (first | ((with_reducible refine gate_callee (f := 51) rfl ?_); refine goesL_ (some 17) rfl rfl Try.func51 (by kernel_rfl) rfl #[] rfl (by (try simp only [List.map_toArray, List.map_cons, List.map_nil]); first | done | rfl | (simp only [List.length_drop, List.length_take]; rfl)) ?_; (with_reducible refine (spec_plAll.calls kj2  t182 _ A13.out).mono ?_); rintro e w14 ⟨v183, rfl, ho0, hb⟩; refine ⟨_, rfl, ?_⟩; have n0_ := Aside0.mk (Kd.R_lower (Kd.R_newB ho0 (g := gb179) (o := .cells #[.int .i64 a0_0, .int .i64 a0_1, .bool a0_2] 25 (0, 0)) (by (with_reducible repeat (first | refine blk_drewN ?_ _ | refine blk_drew ?_ | refine blk_alloc ?_ _)); exact BK179.out)) (below_size (by repeat (first | (with_reducible first | exact HB.out | apply below_alloc | apply pw_below_drewN | apply below_drew1 | refine below_set ?_ GE179.out) | exact HB.out)))); have n1_ := Aside0.mk (blk_below (g := gb179) (o := .cells #[.int .i64 a0_0, .int .i64 a0_1, .bool a0_2] 25 (0, 0)) (by (with_reducible repeat (first | refine blk_drewN ?_ _ | refine blk_drew ?_ | refine blk_alloc ?_ _)); exact BK179.out) hb); have n2_ := Aside0.mk (below_step (by repeat (first | (with_reducible first | exact HB.out | apply below_alloc | apply pw_below_drewN | apply below_drew1 | refine below_set ?_ GE179.out) | exact HB.out)) hb); clear BK179; clear HB; have HO184 := n0_; have BK179 := n1_; have HB := n2_; clear n0_ n1_ n2_; (try clear hb); (try clear hb2); (try clear hk); (try clear hi); (try clear ho0); obtain ⟨Ao15, co15, eo15⟩ := Kd.R_slice HO184.out; subst eo15))
     go_loopg [6, 19] kj2 (fun kq v6 v19 w' => ∃ (x6_2 : List (S25)) (x19_2 : Int), v19 = .int .i64 x19_2 ∧ Aside0 (spec_PlacesWithin.l0 kq a1 x6_2 t182 (t182.length : Int) x19_2 a0_0 a0_1 a0_2 = some (r1, r2)) ∧ Aside0 (kq ≤ kj2) ∧ Aside0 (Kd.R k25 25 w' w.heap.size (fun k_ => some k_ ≠ ((.slice Ao15 t182.length co15) : Value).ownBlock ∧ k_ ≠ gb179) v6 x6_2) ∧ Aside0 (Kd.R k25 25 w' w.heap.size (fun k_ => some k_ ≠ (v6 : Value).ownBlock ∧ k_ ≠ gb179) (.slice Ao15 t182.length co15) t182) ∧ Aside0 (w'.heap[gb179]? = some (.cells #[.int .i64 a0_0, .int .i64 a0_1, .bool a0_2] 25 (0, 0))) ∧ Aside0 (Below w.heap.size w w'))
     case atStart => exact ⟨(([] : List (S25))), (0), (by first | rfl | (simp; done) | (simp [*]; done)), H', ⟨Nat.le_refl _⟩, ⟨by first | exact Kd.R_nil _ _ _ _ _ | exact Kd.N_nil _ _ _ _ _ | exact Kd.V_nil _ _ _ _ _ | exact Kd.Q_nil _ _ _ _ _ | exact Kd.S_nil _ _ _ _ _⟩, ⟨by (with_reducible repeat (first | apply Kd.R_alloc | apply Kd.R_drewN | apply Kd.R_drew)); exact Kd.R_mono HO184.out (fun _ hk => ⟨(by simp [Value.ownBlock]), hk.2⟩)⟩, ⟨by (with_reducible repeat (first | refine blk_drewN ?_ _ | refine blk_drew ?_ | refine blk_alloc ?_ _)); exact BK179.out⟩, ⟨by repeat (first | (with_reducible first | exact HB.out | apply below_alloc | apply pw_below_drewN | apply below_drew1 | refine below_set ?_ GE179.out) | exact HB.out)⟩⟩
     case round =>
      clear H'
      (try clear hcz10_0); (try clear hcz10_1); (try clear hcz10_2); (try clear hcz8_0); (try clear hcz8_1); (try clear hcz8_2); (try clear hfz10_0); (try clear hfz10_1); (try clear hfz10_2); (try clear hfz8_0); (try clear hfz8_1); (try clear hfz8_2)
      obtain ⟨x6_2, x19_2, rfl, HA, HK2, HO_6, HO_17, BK179, HB⟩ := hrel
      cases gk with
      | zero => exact absurd HA.out (by simp [spec_PlacesWithin.l0])
      | succ k2 =>
       have H := HA.out
       clear HA
       simp only [spec_PlacesWithin.l0] at H
       by_cases c16 : x19_2 < (t182.length : Int)
       ·
        rw [if_pos c16] at H
        have c16b0 : decide (x19_2 < (t182.length : Int)) = true := decide_eq_true c16
        clear c16
        refine dite (0 ≤ x19_2) (fun c17 => ?qp14) (fun c17 => ?qn14)
        case' qp14 =>
         rw [if_pos c17] at H
         have c17b0 : decide (0 ≤ x19_2) = true := decide_eq_true c17
         clear c17
         refine dite (x19_2 < (t182.length : Int)) (fun c18 => ?qp15) (fun c18 => ?qn15)
         case' qp15 =>
          rw [if_pos c18] at H
          have c18b0 : decide (x19_2 < (t182.length : Int)) = true := decide_eq_true c18
          clear c18
          replace H := Option.bind_eq_some_iff.mp H
          obtain ⟨t187, A190, H⟩ := H
          replace H : (if t187 ≤ a1 then (if x6_2.length < 5864062014805 then (spec_PlacesWithin.l0 k2 a1 (x6_2 ++ [(⟨(rd_T25 t182 x19_2).f0, (rd_T25 t182 x19_2).f1, (rd_T25 t182 x19_2).f2⟩ : S25)]) t182 (t182.length : Int) (wrap64 (x19_2 + 1)) a0_0 a0_1 a0_2) else (none)) else (spec_PlacesWithin.l0 k2 a1 x6_2 t182 (t182.length : Int) (wrap64 (x19_2 + 1)) a0_0 a0_1 a0_2)) = some (r1, r2) := H
          have A19 := Aside0.mk A190
          clear A190
          refine dite (t187 ≤ a1) (fun c20 => ?qp16) (fun c20 => ?qn16)
          case' qp16 =>
           rw [if_pos c20] at H
           have c20b0 : decide (t187 ≤ a1) = true := decide_eq_true c20
           clear c20
           refine dite (x6_2.length < 5864062014805) (fun c21 => ?qp17) (fun c21 => ?qn17)
           case' qp17 =>
            rw [if_pos c21] at H
            have LMcx0 := Aside0.mk c21
            clear c21
            obtain ⟨y188, hy188⟩ : ∃ y_ : List (S25), y_ = (x6_2 ++ [(⟨(rd_T25 t182 x19_2).f0, (rd_T25 t182 x19_2).f1, (rd_T25 t182 x19_2).f2⟩ : S25)]) := ⟨_, rfl⟩
            replace H : (spec_PlacesWithin.l0 k2 a1 y188 t182 (t182.length : Int) (wrap64 (x19_2 + 1)) a0_0 a0_1 a0_2) = some (r1, r2) := by first | (rw [hy188]; with_reducible exact H) | (have H2_ := (Option.bind_some _ _).symm.trans H; rw [hy188]; with_reducible exact H2_) | (have H2_ := (Option.bind_some _ _).symm.trans H; with_reducible exact H2_) | with_reducible exact H | (rw [hy188]; exact H) | exact H
            have Nyx1 := Aside0.mk hy188
            clear hy188
            have H' := Aside0.mk H
            clear H
            have px2 : 0 ≤ (x19_2 : Int) := of_decide_eq_true (by first | (with_reducible assumption) | assumption)
            have qx2 : x19_2 < (t182.length : Int) := of_decide_eq_true (by first | (with_reducible assumption) | assumption)
            obtain ⟨adx2, ex2, hxx2_0, hxx2_1, hxx2_2⟩ := at_T25 (Kd.R_reads' HO_17.out).2.2 x19_2 px2 qx2
            cases ex2
            replace px2 := eq_true px2
            replace qx2 := eq_true qx2
           case' qn17 =>
            rw [if_neg c21] at H
            exact absurd H (by simp)
          case' qn16 =>
           rw [if_neg c20] at H
           have c20b0 : decide (t187 ≤ a1) = false := decide_eq_false c20
           clear c20
           have H' := Aside0.mk H
           clear H
           have px0 : 0 ≤ (x19_2 : Int) := of_decide_eq_true (by first | (with_reducible assumption) | assumption)
           have qx0 : x19_2 < (t182.length : Int) := of_decide_eq_true (by first | (with_reducible assumption) | assumption)
           obtain ⟨adx0, ex0, hxx0_0, hxx0_1, hxx0_2⟩ := at_T25 (Kd.R_reads' HO_17.out).2.2 x19_2 px0 qx0
           cases ex0
           replace px0 := eq_true px0
           replace qx0 := eq_true qx0
         case' qn15 =>
          rw [if_neg c18] at H
          exact absurd H (by simp)
        case' qn14 =>
         rw [if_neg c17] at H
         exact absurd H (by simp)
        all_goals
         go_wp2_with (first | ((with_reducible refine gate_dst (N := 8) rfl ?_); refine box_event ?hg (N := 8) ?hd (cs := #[.int .i64 0, .int .i64 0, .bool false]) (t := 25) ?hr ?_; (case hd => rfl); (case hg => rfl); (case hr => first | (go_simp; done) | (go_simp; rfl)); intro gbx0 hg wx0 hbox hb; have n0_ := Aside0.mk (Kd.R_below (Kd.R_elderB (by (with_reducible repeat (first | apply Kd.R_alloc | apply Kd.R_drewN | apply Kd.R_drew)); exact HO_6.out) gbx0 (Nat.le_of_eq hg.symm)) hb); have n1_ := Aside0.mk (Kd.R_below (Kd.R_elderB (by (with_reducible repeat (first | apply Kd.R_alloc | apply Kd.R_drewN | apply Kd.R_drew)); exact HO_17.out) gbx0 (Nat.le_of_eq hg.symm)) hb); have n2_ := Aside0.mk (blk_below (g := gb179) (o := .cells #[.int .i64 a0_0, .int .i64 a0_1, .bool a0_2] 25 (0, 0)) (by (with_reducible repeat (first | refine blk_drewN ?_ _ | refine blk_drew ?_ | refine blk_alloc ?_ _)); exact BK179.out) hb); have n3_ := Aside0.mk (below_step (by repeat (first | (with_reducible first | exact HB.out | apply below_alloc | apply pw_below_drewN | apply below_drew1 | refine below_set ?_ GE179.out) | exact HB.out)) hb); have n4_ := Aside0.mk (hbox); have n5_ := Aside0.mk ((by rw [hg]; exact (below_size (by repeat (first | (with_reducible first | exact HB.out | apply below_alloc | apply pw_below_drewN | apply below_drew1 | refine below_set ?_ GE179.out) | exact HB.out))) : w.heap.size ≤ gbx0)); have n6_ := Aside0.mk ((by rw [hg]; exact (below_size (by repeat (first | (with_reducible first | exact HB.out | apply below_alloc | apply pw_below_drewN | apply below_drew1 | refine below_set ?_ GE179.out) | exact HB.out))) : w.heap.size ≤ gbx0)); have n7_ := Aside0.mk ((by rw [hg]; exact Nat.ne_of_lt (blk_lt (g := gb179) (o := .cells #[.int .i64 a0_0, .int .i64 a0_1, .bool a0_2] 25 (0, 0)) (by (with_reducible repeat (first | refine blk_drewN ?_ _ | refine blk_drew ?_ | refine blk_alloc ?_ _)); exact BK179.out)) : gb179 ≠ gbx0)); have n8_ := Aside0.mk ((by rw [hg]; exact Nat.ne_of_gt (blk_lt (g := gb179) (o := .cells #[.int .i64 a0_0, .int .i64 a0_1, .bool a0_2] 25 (0, 0)) (by (with_reducible repeat (first | refine blk_drewN ?_ _ | refine blk_drew ?_ | refine blk_alloc ?_ _)); exact BK179.out)) : gbx0 ≠ gb179)); clear HO_6; clear HO_17; clear BK179; clear HB; have HO_6 := n0_; have HO_17 := n1_; have BK179 := n2_; have HB := n3_; have BKx0 := n4_; have GWx0 := n5_; have GEx0 := n6_; have NBx1_186 := n7_; have NBx0_179 := n8_; clear n0_ n1_ n2_ n3_ n4_ n5_ n6_ n7_ n8_; clear hb hbox hg; have hnbx1 := NBx0_179.out; have hncx1 := NBx1_186.out; have hczx2_0 : wx0.cell? ⟨gbx0, 0, none⟩ = some (.int .i64 0) := (blk_cell BKx0.out 0).trans rfl; have hczx2_1 : wx0.cell? ⟨gbx0, 1, none⟩ = some (.int .i64 0) := (blk_cell BKx0.out 1).trans rfl; have hczx2_2 : wx0.cell? ⟨gbx0, 2, none⟩ = some (.bool false) := (blk_cell BKx0.out 2).trans rfl; have hfzx2_0 := blk_frozen BKx0.out 0; have hfzx2_1 := blk_frozen BKx0.out 1; have hfzx2_2 := blk_frozen BKx0.out 2; have hczx3_0 : wx0.cell? ⟨gb179, 0, none⟩ = some (.int .i64 a0_0) := (blk_cell BK179.out 0).trans rfl; have hczx3_1 : wx0.cell? ⟨gb179, 1, none⟩ = some (.int .i64 a0_1) := (blk_cell BK179.out 1).trans rfl; have hczx3_2 : wx0.cell? ⟨gb179, 2, none⟩ = some (.bool a0_2) := (blk_cell BK179.out 2).trans rfl; have hfzx3_0 := blk_frozen BK179.out 0; have hfzx3_1 := blk_frozen BK179.out 1; have hfzx3_2 := blk_frozen BK179.out 2) | ((with_reducible refine gate_dst (N := 8) rfl ?_); refine box_event ?hg (N := 8) ?hd (cs := #[.int .i64 0, .int .i64 0, .bool false]) (t := 25) ?hr ?_; (case hd => rfl); (case hg => rfl); (case hr => first | (go_simp; done) | (go_simp; rfl)); intro gbx0 hg wx0 hbox hb; have n0_ := Aside0.mk (Kd.R_below (Kd.R_elderB (by (with_reducible repeat (first | apply Kd.R_alloc | apply Kd.R_drewN | apply Kd.R_drew)); exact HO_6.out) gbx0 (Nat.le_of_eq hg.symm)) hb); have n1_ := Aside0.mk (Kd.R_below (Kd.R_elderB (by (with_reducible repeat (first | apply Kd.R_alloc | apply Kd.R_drewN | apply Kd.R_drew)); exact HO_17.out) gbx0 (Nat.le_of_eq hg.symm)) hb); have n2_ := Aside0.mk (blk_below (g := gb179) (o := .cells #[.int .i64 a0_0, .int .i64 a0_1, .bool a0_2] 25 (0, 0)) (by (with_reducible repeat (first | refine blk_drewN ?_ _ | refine blk_drew ?_ | refine blk_alloc ?_ _)); exact BK179.out) hb); have n3_ := Aside0.mk (below_step (by repeat (first | (with_reducible first | exact HB.out | apply below_alloc | apply pw_below_drewN | apply below_drew1 | refine below_set ?_ GE179.out) | exact HB.out)) hb); have n4_ := Aside0.mk (hbox); have n5_ := Aside0.mk ((by rw [hg]; exact (below_size (by repeat (first | (with_reducible first | exact HB.out | apply below_alloc | apply pw_below_drewN | apply below_drew1 | refine below_set ?_ GE179.out) | exact HB.out))) : w.heap.size ≤ gbx0)); have n6_ := Aside0.mk ((by rw [hg]; exact (below_size (by repeat (first | (with_reducible first | exact HB.out | apply below_alloc | apply pw_below_drewN | apply below_drew1 | refine below_set ?_ GE179.out) | exact HB.out))) : w.heap.size ≤ gbx0)); have n7_ := Aside0.mk ((by rw [hg]; exact Nat.ne_of_lt (blk_lt (g := gb179) (o := .cells #[.int .i64 a0_0, .int .i64 a0_1, .bool a0_2] 25 (0, 0)) (by (with_reducible repeat (first | refine blk_drewN ?_ _ | refine blk_drew ?_ | refine blk_alloc ?_ _)); exact BK179.out)) : gb179 ≠ gbx0)); have n8_ := Aside0.mk ((by rw [hg]; exact Nat.ne_of_gt (blk_lt (g := gb179) (o := .cells #[.int .i64 a0_0, .int .i64 a0_1, .bool a0_2] 25 (0, 0)) (by (with_reducible repeat (first | refine blk_drewN ?_ _ | refine blk_drew ?_ | refine blk_alloc ?_ _)); exact BK179.out)) : gbx0 ≠ gb179)); clear HO_6; clear HO_17; clear BK179; clear HB; have HO_6 := n0_; have HO_17 := n1_; have BK179 := n2_; have HB := n3_; have BKx0 := n4_; have GWx0 := n5_; have GEx0 := n6_; have NBx1_186 := n7_; have NBx0_179 := n8_; clear n0_ n1_ n2_ n3_ n4_ n5_ n6_ n7_ n8_; clear hb hbox hg; have hnbx3 := NBx0_179.out; have hncx3 := NBx1_186.out; have hczx4_0 : wx0.cell? ⟨gbx0, 0, none⟩ = some (.int .i64 0) := (blk_cell BKx0.out 0).trans rfl; have hczx4_1 : wx0.cell? ⟨gbx0, 1, none⟩ = some (.int .i64 0) := (blk_cell BKx0.out 1).trans rfl; have hczx4_2 : wx0.cell? ⟨gbx0, 2, none⟩ = some (.bool false) := (blk_cell BKx0.out 2).trans rfl; have hfzx4_0 := blk_frozen BKx0.out 0; have hfzx4_1 := blk_frozen BKx0.out 1; have hfzx4_2 := blk_frozen BKx0.out 2; have hczx5_0 : wx0.cell? ⟨gb179, 0, none⟩ = some (.int .i64 a0_0) := (blk_cell BK179.out 0).trans rfl; have hczx5_1 : wx0.cell? ⟨gb179, 1, none⟩ = some (.int .i64 a0_1) := (blk_cell BK179.out 1).trans rfl; have hczx5_2 : wx0.cell? ⟨gb179, 2, none⟩ = some (.bool a0_2) := (blk_cell BK179.out 2).trans rfl; have hfzx5_0 := blk_frozen BK179.out 0; have hfzx5_1 := blk_frozen BK179.out 1; have hfzx5_2 := blk_frozen BK179.out 2) | ((with_reducible refine gate_callee (f := 49) rfl ?_); refine goesL_ (some 25) rfl rfl Try.func49 (by kernel_rfl) rfl #[.agg #[.int .i64 a0_0, .int .i64 a0_1, .bool a0_2], .agg #[.int .i64 ((rd_T25 t182 x19_2).f0), .int .i64 ((rd_T25 t182 x19_2).f1), .bool ((rd_T25 t182 x19_2).f2)]] rfl (by (try simp only [List.map_toArray, List.map_cons, List.map_nil]); first | done | rfl | (simp only [List.length_drop, List.length_take]; rfl)) ?_; (with_reducible refine (spec_plFar.calls a0_0 a0_1 a0_2 ((rd_T25 t182 x19_2).f0) ((rd_T25 t182 x19_2).f1) ((rd_T25 t182 x19_2).f2) _ _ A19.out).mono ?_); rintro e wx1 ⟨rfl, hb⟩; refine ⟨_, rfl, ?_⟩; have n0_ := Aside0.mk (Kd.R_below (by (with_reducible repeat (first | apply Kd.R_alloc | apply Kd.R_drewN | apply Kd.R_drew)); exact (Kd.R_mono (Kd.R_far (p := ⟨gbx0, 2, none⟩) (Kd.R_far (p := ⟨gbx0, 1, none⟩) (Kd.R_far (p := ⟨gbx0, 0, none⟩) (Kd.R_mono HO_6.out (fun k_ hk => (⟨hk, hk.2⟩ : _ ∧ k_ ≠ gbx0))) (fun _ hk => hk.2) (.int .i64 ((rd_T25 t182 x19_2).f0))) (fun _ hk => hk.2) (.int .i64 ((rd_T25 t182 x19_2).f1))) (fun _ hk => hk.2) (.bool ((rd_T25 t182 x19_2).f2))) (fun _ h_ => h_.1))) hb); have n1_ := Aside0.mk (Kd.R_below (by (with_reducible repeat (first | apply Kd.R_alloc | apply Kd.R_drewN | apply Kd.R_drew)); exact (Kd.R_mono (Kd.R_far (p := ⟨gbx0, 2, none⟩) (Kd.R_far (p := ⟨gbx0, 1, none⟩) (Kd.R_far (p := ⟨gbx0, 0, none⟩) (Kd.R_mono HO_17.out (fun k_ hk => (⟨hk, hk.2⟩ : _ ∧ k_ ≠ gbx0))) (fun _ hk => hk.2) (.int .i64 ((rd_T25 t182 x19_2).f0))) (fun _ hk => hk.2) (.int .i64 ((rd_T25 t182 x19_2).f1))) (fun _ hk => hk.2) (.bool ((rd_T25 t182 x19_2).f2))) (fun _ h_ => h_.1))) hb); have n2_ := Aside0.mk (blk_below (g := gb179) (o := .cells #[.int .i64 a0_0, .int .i64 a0_1, .bool a0_2] 25 (0, 0)) (by (with_reducible repeat (first | refine blk_drewN ?_ _ | refine blk_drew ?_ | refine blk_alloc ?_ _)); refine blk_far ?_ NBx1_186.out _; (with_reducible repeat (first | refine blk_drewN ?_ _ | refine blk_drew ?_ | refine blk_alloc ?_ _)); refine blk_far ?_ NBx1_186.out _; (with_reducible repeat (first | refine blk_drewN ?_ _ | refine blk_drew ?_ | refine blk_alloc ?_ _)); refine blk_far ?_ NBx1_186.out _; (with_reducible repeat (first | refine blk_drewN ?_ _ | refine blk_drew ?_ | refine blk_alloc ?_ _)); exact BK179.out) hb); have n3_ := Aside0.mk (blk_below (g := gbx0) (o := .cells #[.int .i64 ((rd_T25 t182 x19_2).f0), .int .i64 ((rd_T25 t182 x19_2).f1), .bool ((rd_T25 t182 x19_2).f2)] 25 (0, 0)) (by (with_reducible repeat (first | refine blk_drewN ?_ _ | refine blk_drew ?_ | refine blk_alloc ?_ _)); refine blk_put (cs := #[.int .i64 ((rd_T25 t182 x19_2).f0), .int .i64 ((rd_T25 t182 x19_2).f1), .bool false]) ?_ 2 _ rfl; (with_reducible repeat (first | refine blk_drewN ?_ _ | refine blk_drew ?_ | refine blk_alloc ?_ _)); refine blk_put (cs := #[.int .i64 ((rd_T25 t182 x19_2).f0), .int .i64 0, .bool false]) ?_ 1 _ rfl; (with_reducible repeat (first | refine blk_drewN ?_ _ | refine blk_drew ?_ | refine blk_alloc ?_ _)); refine blk_put (cs := #[.int .i64 0, .int .i64 0, .bool false]) ?_ 0 _ rfl; (with_reducible repeat (first | refine blk_drewN ?_ _ | refine blk_drew ?_ | refine blk_alloc ?_ _)); exact BKx0.out) hb); have n4_ := Aside0.mk (below_step (by repeat (first | (with_reducible first | exact HB.out | apply below_alloc | apply pw_below_drewN | apply below_drew1 | refine below_set ?_ GE179.out | refine below_set ?_ GEx0.out) | exact HB.out)) hb); clear HO_6; clear HO_17; clear BK179; clear BKx0; clear HB; have HO_6 := n0_; have HO_17 := n1_; have BK179 := n2_; have BKx0 := n3_; have HB := n4_; clear n0_ n1_ n2_ n3_ n4_; (try clear hb); (try clear hb2); (try clear hk); (try clear hi); have hczx6_0 : wx1.cell? ⟨gbx0, 0, none⟩ = some (.int .i64 ((rd_T25 t182 x19_2).f0)) := (blk_cell BKx0.out 0).trans rfl; have hczx6_1 : wx1.cell? ⟨gbx0, 1, none⟩ = some (.int .i64 ((rd_T25 t182 x19_2).f1)) := (blk_cell BKx0.out 1).trans rfl; have hczx6_2 : wx1.cell? ⟨gbx0, 2, none⟩ = some (.bool ((rd_T25 t182 x19_2).f2)) := (blk_cell BKx0.out 2).trans rfl; have hfzx6_0 := blk_frozen BKx0.out 0; have hfzx6_1 := blk_frozen BKx0.out 1; have hfzx6_2 := blk_frozen BKx0.out 2) | ((with_reducible refine gate_builtin (b := .append) (xs := #[.tmp 28, .tmp 30]) rfl ?_); at_builtin; refine Kd.R_append k25 (w0 := w) w.heap.size rfl (.tmp 28) (.tmp 30) 37 25 (.agg #[(.int .i64 0), (.int .i64 0), (.bool false)]) 24 rfl Try.underlying37 info25 rfl (by decide) (by omega) u6 x6_2 (⟨(rd_T25 t182 x19_2).f0, (rd_T25 t182 x19_2).f1, (rd_T25 t182 x19_2).f2⟩ : S25) [.int .i64 ((rd_T25 t182 x19_2).f0), .int .i64 ((rd_T25 t182 x19_2).f1), .bool ((rd_T25 t182 x19_2).f2)] (fun k_ => some k_ ≠ (.slice (some adx2) t182.length co15 : Value).ownBlock ∧ k_ ≠ gb179 ∧ k_ ≠ gbx0) (fun _ => False) rfl rfl ?aP (fun _ hk => hk.elim) ?aF ?aO ?aB ?aS ?aL ?_; (case aP => exact k25_mkM _ _ _ (⟨(rd_T25 t182 x19_2).f0, (rd_T25 t182 x19_2).f1, (rd_T25 t182 x19_2).f2⟩ : S25)); (case aB => exact (by repeat (first | (with_reducible first | exact HB.out | apply below_alloc | apply pw_below_drewN | apply below_drew1 | refine below_set ?_ GE179.out | refine below_set ?_ GEx0.out) | exact HB.out))); (case aF => exact (fun k_ hk => ⟨Kd.fresh' (Kd.R_lt (by (with_reducible repeat (first | apply Kd.R_alloc | apply Kd.R_drewN | apply Kd.R_drew)); exact HO_17.out)) k_ hk, Kd.freshB (g := gb179) (o := .cells #[.int .i64 a0_0, .int .i64 a0_1, .bool a0_2] 25 (0, 0)) (by (with_reducible repeat (first | refine blk_drewN ?_ _ | refine blk_drew ?_ | refine blk_alloc ?_ _)); exact BK179.out) k_ hk, Kd.freshB (g := gbx0) (o := .cells #[.int .i64 ((rd_T25 t182 x19_2).f0), .int .i64 ((rd_T25 t182 x19_2).f1), .bool ((rd_T25 t182 x19_2).f2)] 25 (0, 0)) (by (with_reducible repeat (first | refine blk_drewN ?_ _ | refine blk_drew ?_ | refine blk_alloc ?_ _)); exact BKx0.out) k_ hk⟩)); (case aO => exact (by (with_reducible repeat (first | apply Kd.R_alloc | apply Kd.R_drewN | apply Kd.R_drew)); exact Kd.R_mono HO_6.out (fun _ hk => ⟨hk.1.1, ⟨hk.1.2, hk.2⟩⟩))); (case aS => exact (below_size (by repeat (first | (with_reducible first | exact HB.out | apply below_alloc | apply pw_below_drewN | apply below_drew1 | refine below_set ?_ GE179.out | refine below_set ?_ GEx0.out) | exact HB.out)))); (case aL => have := LMcx0.out; omega); intro vx7 wx2 ho hb hg hat; rw [← Nyx1.out] at ho; have n0_ := Aside0.mk (Kd.R_after (ok := (fun k_ => k_ ≠ gb179 ∧ k_ ≠ gbx0)) (by (with_reducible repeat (first | apply Kd.R_alloc | apply Kd.R_drewN | apply Kd.R_drew)); exact Kd.R_mono HO_17.out (fun _ hk => ⟨⟨hk.1.2, hk.2⟩, hk.1.1⟩)) hg hat); have n1_ := Aside0.mk (blk_grown (g := gb179) (o := .cells #[.int .i64 a0_0, .int .i64 a0_1, .bool a0_2] 25 (0, 0)) (by (with_reducible repeat (first | refine blk_drewN ?_ _ | refine blk_drew ?_ | refine blk_alloc ?_ _)); exact BK179.out) hg (Kd.R_away HO_6.out (fun _ hk => hk.1.2))); have n2_ := Aside0.mk (blk_grown (g := gbx0) (o := .cells #[.int .i64 ((rd_T25 t182 x19_2).f0), .int .i64 ((rd_T25 t182 x19_2).f1), .bool ((rd_T25 t182 x19_2).f2)] 25 (0, 0)) (by (with_reducible repeat (first | refine blk_drewN ?_ _ | refine blk_drew ?_ | refine blk_alloc ?_ _)); exact BKx0.out) hg (Kd.R_away HO_6.out (fun _ hk => hk.2))); have n3_ := Aside0.mk (hb); have n4_ := Aside0.mk (ho); clear HO_17; clear BK179; clear BKx0; clear HB; clear HO_6; have HO_17 := n0_; have BK179 := n1_; have BKx0 := n2_; have HB := n3_; have HOx8 := n4_; clear n0_ n1_ n2_ n3_ n4_; clear ho hb hg hat))
        ·
         go_roundg k2
         case measure => have := HJ2.out; have := HK2.out; omega
         case rel => exact ⟨(x6_2), (wrap64 (x19_2 + 1)), (by first | rfl | (simp; done) | (simp [*]; done)), H', ⟨by have := HJ2.out; have := HK2.out; omega⟩, ⟨by (with_reducible repeat (first | apply Kd.R_alloc | apply Kd.R_drewN | apply Kd.R_drew)); exact Kd.R_mono HO_6.out (fun _ hk => ⟨hk.1.1, hk.1.2⟩)⟩, ⟨by (with_reducible repeat (first | apply Kd.R_alloc | apply Kd.R_drewN | apply Kd.R_drew)); exact Kd.R_mono HO_17.out (fun _ hk => ⟨hk.1.1, hk.1.2⟩)⟩, ⟨by (with_reducible repeat (first | refine blk_drewN ?_ _ | refine blk_drew ?_ | refine blk_alloc ?_ _)); exact BK179.out⟩, ⟨by repeat (first | (with_reducible first | exact HB.out | apply below_alloc | apply pw_below_drewN | apply below_drew1 | refine below_set ?_ GE179.out | refine below_set ?_ GEx0.out) | exact HB.out)⟩⟩
        ·
         go_roundg k2
         case measure => have := HJ2.out; have := HK2.out; omega
         case rel => exact ⟨(y188), (wrap64 (x19_2 + 1)), (by first | rfl | (simp; done) | (simp [*]; done)), H', ⟨by have := HJ2.out; have := HK2.out; omega⟩, ⟨by (with_reducible repeat (first | apply Kd.R_alloc | apply Kd.R_drewN | apply Kd.R_drew)); exact Kd.R_mono HOx8.out (fun _ hk => ⟨hk.1, hk.2.1⟩)⟩, ⟨by (with_reducible repeat (first | apply Kd.R_alloc | apply Kd.R_drewN | apply Kd.R_drew)); exact Kd.R_mono HO_17.out (fun _ hk => ⟨hk.2, hk.1.1⟩)⟩, ⟨by (with_reducible repeat (first | refine blk_drewN ?_ _ | refine blk_drew ?_ | refine blk_alloc ?_ _)); exact BK179.out⟩, ⟨by repeat (first | (with_reducible first | exact HB.out | apply below_alloc | apply pw_below_drewN | apply below_drew1 | refine below_set ?_ GE179.out | refine below_set ?_ GEx0.out) | exact HB.out)⟩⟩
       ·
        rw [if_neg c16] at H
        have c16b0 : decide (x19_2 < (t182.length : Int)) = false := decide_eq_false c16
        clear c16
        simp only [Option.some.injEq, Prod.mk.injEq] at H
        obtain ⟨rfl, rfl⟩ := H
        go_wp2
        go_ret2
        exact ⟨_, by first | rfl | (simp [errW_none, errW_some] <;> rfl) | (simp [*, errW_none, errW_some] <;> rfl), by (with_reducible repeat (first | apply Kd.R_alloc | apply Kd.R_drewN | apply Kd.R_drew)); exact Kd.R_mono HO_6.out (fun _ hk => trivial), by repeat (first | (with_reducible first | exact HB.out | apply below_alloc | apply pw_below_drewN | apply below_drew1 | refine below_set ?_ GE179.out) | exact HB.out)⟩

end Go.Proofs.Ytmjejlifohghjaa.FC
