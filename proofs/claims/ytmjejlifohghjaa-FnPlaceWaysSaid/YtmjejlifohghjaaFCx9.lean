-- laid by pr.py (wip/tools) over the kit's printer; Lean checks it
import Derived.Test.YtmjejlifohghjaaFCx0
import Derived.Test.YtmjejlifohghjaaFCx2
namespace Go.Proofs.Ytmjejlifohghjaa.FC
open Go.RowKit Go.Proofs.YtmjejlifohghjaaW.PrintWords Go.Proofs.YtmjejlifohghjaaW.PrintLast Go.Proofs.YtmjejlifohghjaaW.PrintMore
attribute [local go_sem] max2_int min2_int max_two min_two max_three min_three max_four min_four   -- for this text's walks alone
set_option linter.unusedVariables false
set_option linter.unusedSimpArgs false

/-! ### spec_plAll: function 51 -/
mutual
def spec_plAll.l0 : Nat → List (S25) → Int → Option ((List (S25)))
  | 0, _, _ => none
  | k + 1, x1, x2 => if x2 < 10 then (spec_plAll.l1 k x1 x2 (-1)) else (some x1)
def spec_plAll.l1 : Nat → List (S25) → Int → Int → Option ((List (S25)))
  | 0, _, _, _ => none
  | k + 1, x1, x2, x3 => if x3 ≤ 1 then ((some (([false, true] : List Bool) : List Bool)).bind fun y170 => (spec_plAll.l2 k x1 x2 x3 y170 (y170.length : Int) 0)) else (spec_plAll.l0 k x1 (wrap64 (x2 + 1)))
def spec_plAll.l2 : Nat → List (S25) → Int → Int → List Bool → Int → Int → Option ((List (S25)))
  | 0, _, _, _, _, _, _ => none
  | k + 1, x1, x2, x3, x15, x16, x17 => if x17 < x16 then (if 0 ≤ x17 then (if x17 < (x15.length : Int) then ((spec_plGood.f x2 x3 (rdOf false x15 x17)).bind fun t175 => (if t175 = true then (if x1.length < 5864062014805 then (spec_plAll.l2 k (x1 ++ [(⟨x2, x3, rdOf false x15 x17⟩ : S25)]) x2 x3 x15 x16 (wrap64 (x17 + 1))) else (none)) else (spec_plAll.l2 k x1 x2 x3 x15 x16 (wrap64 (x17 + 1))))) else (none)) else (none)) else (spec_plAll.l1 k x1 x2 (wrap64 (x3 + 1)))
end
def spec_plAll.f (k : Nat)  : Option ((List (S25))) := spec_plAll.l0 k ([] : List (S25)) 0
theorem spec_plAll.mono_l : ∀ k, (∀ y0 y1, LeO (spec_plAll.l0 k y0 y1) (spec_plAll.l0 (k + 1) y0 y1)) ∧ (∀ y0 y1 y2, LeO (spec_plAll.l1 k y0 y1 y2) (spec_plAll.l1 (k + 1) y0 y1 y2)) ∧ (∀ y0 y1 y2 y3 y4 y5, LeO (spec_plAll.l2 k y0 y1 y2 y3 y4 y5) (spec_plAll.l2 (k + 1) y0 y1 y2 y3 y4 y5))
  | 0 => ⟨fun _ _ r h => by simp [spec_plAll.l0] at h, fun _ _ _ r h => by simp [spec_plAll.l1] at h, fun _ _ _ _ _ _ r h => by simp [spec_plAll.l2] at h⟩
  | k + 1 => by
    obtain ⟨ih0, ih1, ih2⟩ := spec_plAll.mono_l k
    refine ⟨?_, ?_, ?_⟩
    · intro y0 y1
      unfold spec_plAll.l0
      repeat' first
      | (with_reducible exact ih0 _ _)
      | (with_reducible exact ih1 _ _ _)
      | (with_reducible exact ih2 _ _ _ _ _ _)
      | (with_reducible exact LeO.refl _)
      | (with_reducible exact LeO.none _)
      | (with_reducible refine LeO.ite ?_ ?_)
      | (with_reducible refine LeO.bind ?_ (fun _ => ?_))
      | exact ih0 _ _
      | exact ih1 _ _ _
      | exact ih2 _ _ _ _ _ _
      | exact LeO.none _
      | refine LeO.ite ?_ ?_
      | refine LeO.bind ?_ (fun _ => ?_)
    · intro y0 y1 y2
      unfold spec_plAll.l1
      repeat' first
      | (with_reducible exact ih0 _ _)
      | (with_reducible exact ih1 _ _ _)
      | (with_reducible exact ih2 _ _ _ _ _ _)
      | (with_reducible exact LeO.refl _)
      | (with_reducible exact LeO.none _)
      | (with_reducible refine LeO.ite ?_ ?_)
      | (with_reducible refine LeO.bind ?_ (fun _ => ?_))
      | exact ih0 _ _
      | exact ih1 _ _ _
      | exact ih2 _ _ _ _ _ _
      | exact LeO.none _
      | refine LeO.ite ?_ ?_
      | refine LeO.bind ?_ (fun _ => ?_)
    · intro y0 y1 y2 y3 y4 y5
      unfold spec_plAll.l2
      repeat' first
      | (with_reducible exact ih0 _ _)
      | (with_reducible exact ih1 _ _ _)
      | (with_reducible exact ih2 _ _ _ _ _ _)
      | (with_reducible exact LeO.refl _)
      | (with_reducible exact LeO.none _)
      | (with_reducible refine LeO.ite ?_ ?_)
      | (with_reducible refine LeO.bind ?_ (fun _ => ?_))
      | exact ih0 _ _
      | exact ih1 _ _ _
      | exact ih2 _ _ _ _ _ _
      | exact LeO.none _
      | refine LeO.ite ?_ ?_
      | refine LeO.bind ?_ (fun _ => ?_)
theorem spec_plAll.mono : ∀ k, LeO (spec_plAll.f k ) (spec_plAll.f (k + 1) ) := by
  intro  k
  obtain ⟨ih0, ih1, ih2⟩ := spec_plAll.mono_l k
  unfold spec_plAll.f
  repeat' first
    | (with_reducible exact ih0 _ _)
    | (with_reducible exact ih1 _ _ _)
    | (with_reducible exact ih2 _ _ _ _ _ _)
    | (with_reducible exact LeO.refl _)
    | (with_reducible exact LeO.none _)
    | (with_reducible refine LeO.ite ?_ ?_)
    | (with_reducible refine LeO.bind ?_ (fun _ => ?_))
    | exact ih0 _ _
    | exact ih1 _ _ _
    | exact ih2 _ _ _ _ _ _
    | exact LeO.none _
    | refine LeO.ite ?_ ?_
    | refine LeO.bind ?_ (fun _ => ?_)
set_option maxHeartbeats 8000000 in
set_option maxRecDepth 100000 in
theorem spec_plAll.calls (k : Nat)  (r : List (S25)) (w : World) (h : spec_plAll.f k  = some r) :
    Calls Try.prog 51 #[] w fun e w' => ∃ v0_ : Value, e = .returned (v0_) ∧ Kd.R k25 25 w' w.heap.size (fun _ => True) v0_ r ∧ Below w.heap.size w w' := by
  have hu25 := Try.underlying25
  have HB := Aside0.mk (Below.refl w.heap.size w)
  have H : (spec_plAll.l0 k ([] : List (S25)) 0) = some r := h
  clear h
  have H' := Aside0.mk H
  clear H
  go_enter Try.func51, Try.ntmps51
  go_wp2
  go_loopg [1, 2] k (fun kq v1 v2 w' => ∃ (x1_1 : List (S25)) (x2_1 : Int), v2 = .int .i64 x2_1 ∧ Aside0 (spec_plAll.l0 kq x1_1 x2_1 = some r) ∧ Aside0 (kq ≤ k) ∧ Aside0 (Kd.R k25 25 w' w.heap.size (fun _ => True) v1 x1_1) ∧ Aside0 (Below w.heap.size w w'))
  case atStart => exact ⟨(([] : List (S25))), (0), (by first | rfl | (simp; done) | (simp [*]; done)), H', ⟨Nat.le_refl _⟩, ⟨by first | exact Kd.R_nil _ _ _ _ _ | exact Kd.N_nil _ _ _ _ _ | exact Kd.V_nil _ _ _ _ _ | exact Kd.Q_nil _ _ _ _ _ | exact Kd.S_nil _ _ _ _ _⟩, ⟨by repeat (first | (with_reducible first | exact HB.out | apply below_alloc | apply pw_below_drewN | apply below_drew1) | exact HB.out)⟩⟩
  case round =>
   clear H'
   obtain ⟨x1_1, x2_1, rfl, HA, HK1, HO_1, HB⟩ := hrel
   cases gk with
   | zero => exact absurd HA.out (by simp [spec_plAll.l0])
   | succ k1 =>
    have H := HA.out
    clear HA
    simp only [spec_plAll.l0] at H
    by_cases c1 : x2_1 < 10
    ·
     rw [if_pos c1] at H
     have c1b0 : decide (x2_1 < 10) = true := decide_eq_true c1
     clear c1
     have H' := Aside0.mk H
     clear H
     go_wp2
     go_loopg [1, 3] k1 (fun kq v1 v3 w' => ∃ (x1_2 : List (S25)) (x3_2 : Int), v3 = .int .i64 x3_2 ∧ Aside0 (spec_plAll.l1 kq x1_2 x2_1 x3_2 = some r) ∧ Aside0 (kq ≤ k1) ∧ Aside0 (Kd.R k25 25 w' w.heap.size (fun _ => True) v1 x1_2) ∧ Aside0 (Below w.heap.size w w'))
     case atStart => exact ⟨(x1_1), ((-1)), (by first | rfl | (simp; done) | (simp [*]; done)), H', ⟨Nat.le_refl _⟩, ⟨by (with_reducible repeat (first | apply Kd.R_alloc | apply Kd.R_drewN | apply Kd.R_drew)); exact HO_1.out⟩, ⟨by repeat (first | (with_reducible first | exact HB.out | apply below_alloc | apply pw_below_drewN | apply below_drew1) | exact HB.out)⟩⟩
     case round =>
      clear H'
      (try clear c1b0)
      obtain ⟨x1_2, x3_2, rfl, HA, HK2, HO_1, HB⟩ := hrel
      cases gk with
      | zero => exact absurd HA.out (by simp [spec_plAll.l1])
      | succ k2 =>
       have H := HA.out
       clear HA
       simp only [spec_plAll.l1] at H
       by_cases c2 : x3_2 ≤ 1
       ·
        rw [if_pos c2] at H
        have c2b0 : decide (x3_2 ≤ 1) = true := decide_eq_true c2
        clear c2
        obtain ⟨y170, hy170⟩ : ∃ y_ : List Bool, y_ = (([false, true] : List Bool)) := ⟨_, rfl⟩
        replace H : (spec_plAll.l2 k2 x1_2 x2_1 x3_2 y170 (y170.length : Int) 0) = some r := by first | (rw [hy170]; with_reducible exact H) | (have H2_ := (Option.bind_some _ _).symm.trans H; rw [hy170]; with_reducible exact H2_) | (have H2_ := (Option.bind_some _ _).symm.trans H; with_reducible exact H2_) | with_reducible exact H | (rw [hy170]; exact H) | exact H
        have Ny170 := Aside0.mk hy170
        clear hy170
        have H' := Aside0.mk H
        clear H
        go_wp2_with (first | ((with_reducible refine gate_dst (N := 15) rfl ?_); refine Kd.R_lit Kd.bool _ 4 ?hg (N := 15) ?hd (xs := ([false, true] : List Bool)) (inner := [.bool false, .bool true]) (ok := fun _ => True) (okp := fun _ => True) ?hr ?hp (fun _ hk => hk) trivial (Below.refl _ _) (Nat.le_refl _) (by simp) ?_; (case hd => rfl); (case hg => rfl); (case hr => first | (go_simp; done) | (go_simp; rfl)); (case hp => exact (Reps.one (show Kd.M Kd.bool _ _ _ false [.bool false] from rfl) (Reps.one (show Kd.M Kd.bool _ _ _ true [.bool true] from rfl) (Reps.none _ _)))); intro v171 w3 ho4 hb hg_ hnew_; clear hg_ hnew_; (first | rw [← Ny170.out] at ho4 | (simp only [Int.reduceToNat] at ho4; rw [← Ny170.out] at ho4)); have n0_ := Aside0.mk (Kd.R_below (by (with_reducible repeat (first | apply Kd.R_alloc | apply Kd.R_drewN | apply Kd.R_drew)); exact HO_1.out) hb); have n1_ := Aside0.mk (Kd.R_lower ho4 (below_size (by repeat (first | (with_reducible first | exact HB.out | apply below_alloc | apply pw_below_drewN | apply below_drew1) | exact HB.out)))); have n2_ := Aside0.mk (below_step (by repeat (first | (with_reducible first | exact HB.out | apply below_alloc | apply pw_below_drewN | apply below_drew1) | exact HB.out)) hb); clear HO_1; clear HB; have HO_1 := n0_; have HO172 := n1_; have HB := n2_; clear n0_ n1_ n2_; clear hb ho4; obtain ⟨Ao5, co5, eo5⟩ := Kd.R_slice HO172.out; subst eo5))
        go_loopg [1, 17] k2 (fun kq v1 v17 w' => ∃ (x1_3 : List (S25)) (x17_3 : Int), v17 = .int .i64 x17_3 ∧ Aside0 (spec_plAll.l2 kq x1_3 x2_1 x3_2 y170 (y170.length : Int) x17_3 = some r) ∧ Aside0 (kq ≤ k2) ∧ Aside0 (Kd.R k25 25 w' w.heap.size (fun _ => True) v1 x1_3) ∧ Aside0 (Kd.R Kd.bool 4 w' w.heap.size (fun _ => True) (.slice Ao5 y170.length co5) y170) ∧ Aside0 (Below w.heap.size w w'))
        case atStart => exact ⟨(x1_2), (0), (by first | rfl | (simp; done) | (simp [*]; done)), H', ⟨Nat.le_refl _⟩, ⟨by (with_reducible repeat (first | apply Kd.R_alloc | apply Kd.R_drewN | apply Kd.R_drew)); exact HO_1.out⟩, ⟨by (with_reducible repeat (first | apply Kd.R_alloc | apply Kd.R_drewN | apply Kd.R_drew)); exact HO172.out⟩, ⟨by repeat (first | (with_reducible first | exact HB.out | apply below_alloc | apply pw_below_drewN | apply below_drew1) | exact HB.out)⟩⟩
        case round =>
         clear H'
         (try clear c1b0); (try clear c2b0)
         obtain ⟨x1_3, x17_3, rfl, HA, HK3, HO_1, HO_15, HB⟩ := hrel
         cases gk with
         | zero => exact absurd HA.out (by simp [spec_plAll.l2])
         | succ k3 =>
          have H := HA.out
          clear HA
          simp only [spec_plAll.l2] at H
          by_cases c6 : x17_3 < (y170.length : Int)
          ·
           rw [if_pos c6] at H
           have c6b0 : decide (x17_3 < (y170.length : Int)) = true := decide_eq_true c6
           clear c6
           refine dite (0 ≤ x17_3) (fun c7 => ?qp9) (fun c7 => ?qn9)
           case' qp9 =>
            rw [if_pos c7] at H
            have c7b0 : decide (0 ≤ x17_3) = true := decide_eq_true c7
            clear c7
            refine dite (x17_3 < (y170.length : Int)) (fun c8 => ?qp10) (fun c8 => ?qn10)
            case' qp10 =>
             rw [if_pos c8] at H
             have c8b0 : decide (x17_3 < (y170.length : Int)) = true := decide_eq_true c8
             clear c8
             replace H := Option.bind_eq_some_iff.mp H
             obtain ⟨t175, A90, H⟩ := H
             replace H : (if t175 = true then (if x1_3.length < 5864062014805 then (spec_plAll.l2 k3 (x1_3 ++ [(⟨x2_1, x3_2, rdOf false y170 x17_3⟩ : S25)]) x2_1 x3_2 y170 (y170.length : Int) (wrap64 (x17_3 + 1))) else (none)) else (spec_plAll.l2 k3 x1_3 x2_1 x3_2 y170 (y170.length : Int) (wrap64 (x17_3 + 1)))) = some r := H
             have A9 := Aside0.mk A90
             clear A90
             refine dite (t175 = true) (fun c10 => ?qp11) (fun c10 => ?qn11)
             case' qp11 =>
              subst c10
              have H1 : (if x1_3.length < 5864062014805 then (spec_plAll.l2 k3 (x1_3 ++ [(⟨x2_1, x3_2, rdOf false y170 x17_3⟩ : S25)]) x2_1 x3_2 y170 (y170.length : Int) (wrap64 (x17_3 + 1))) else (none)) = some r := by rw [if_pos rfl] at H; exact H
              clear H
              have H := H1
              clear H1
              refine dite (x1_3.length < 5864062014805) (fun c11 => ?qp12) (fun c11 => ?qn12)
              case' qp12 =>
               rw [if_pos c11] at H
               have LMcx0 := Aside0.mk c11
               clear c11
               obtain ⟨y176, hy176⟩ : ∃ y_ : List (S25), y_ = (x1_3 ++ [(⟨x2_1, x3_2, rdOf false y170 x17_3⟩ : S25)]) := ⟨_, rfl⟩
               replace H : (spec_plAll.l2 k3 y176 x2_1 x3_2 y170 (y170.length : Int) (wrap64 (x17_3 + 1))) = some r := by first | (rw [hy176]; with_reducible exact H) | (have H2_ := (Option.bind_some _ _).symm.trans H; rw [hy176]; with_reducible exact H2_) | (have H2_ := (Option.bind_some _ _).symm.trans H; with_reducible exact H2_) | with_reducible exact H | (rw [hy176]; exact H) | exact H
               have Nyx1 := Aside0.mk hy176
               clear hy176
               have H' := Aside0.mk H
               clear H
               have px2 : 0 ≤ (x17_3 : Int) := of_decide_eq_true (by first | (with_reducible assumption) | assumption)
               have qx2 : x17_3 < (y170.length : Int) := of_decide_eq_true (by first | (with_reducible assumption) | assumption)
               obtain ⟨adx2, ex2, hxx2_0⟩ := Kd.at_bool (Kd.R_reads' HO_15.out).2.2 x17_3 px2 qx2
               cases ex2
               replace px2 := eq_true px2
               replace qx2 := eq_true qx2
              case' qn12 =>
               rw [if_neg c11] at H
               exact absurd H (by simp)
             case' qn11 =>
              replace c10 := Bool.eq_false_iff.mpr c10
              subst c10
              have H1 : (spec_plAll.l2 k3 x1_3 x2_1 x3_2 y170 (y170.length : Int) (wrap64 (x17_3 + 1))) = some r := by rw [if_neg (show ¬ (false = true) by decide)] at H; exact H
              clear H
              have H := H1
              clear H1
              have H' := Aside0.mk H
              clear H
              have px0 : 0 ≤ (x17_3 : Int) := of_decide_eq_true (by first | (with_reducible assumption) | assumption)
              have qx0 : x17_3 < (y170.length : Int) := of_decide_eq_true (by first | (with_reducible assumption) | assumption)
              obtain ⟨adx0, ex0, hxx0_0⟩ := Kd.at_bool (Kd.R_reads' HO_15.out).2.2 x17_3 px0 qx0
              cases ex0
              replace px0 := eq_true px0
              replace qx0 := eq_true qx0
            case' qn10 =>
             rw [if_neg c8] at H
             exact absurd H (by simp)
           case' qn9 =>
            rw [if_neg c7] at H
            exact absurd H (by simp)
           all_goals
            go_wp2_with (first | ((with_reducible refine gate_dst (N := 6) rfl ?_); refine box_event ?hg (N := 6) ?hd (cs := #[.int .i64 0, .int .i64 0, .bool false]) (t := 25) ?hr ?_; (case hd => rfl); (case hg => rfl); (case hr => first | (go_simp; done) | (go_simp; rfl)); intro gbx0 hg wx0 hbox hb; have n0_ := Aside0.mk (Kd.R_below (Kd.R_elderB (by (with_reducible repeat (first | apply Kd.R_alloc | apply Kd.R_drewN | apply Kd.R_drew)); exact HO_1.out) gbx0 (Nat.le_of_eq hg.symm)) hb); have n1_ := Aside0.mk (Kd.R_below (by (with_reducible repeat (first | apply Kd.R_alloc | apply Kd.R_drewN | apply Kd.R_drew)); exact HO_15.out) hb); have n2_ := Aside0.mk (below_step (by repeat (first | (with_reducible first | exact HB.out | apply below_alloc | apply pw_below_drewN | apply below_drew1) | exact HB.out)) hb); have n3_ := Aside0.mk (hbox); have n4_ := Aside0.mk ((by rw [hg]; exact (below_size (by repeat (first | (with_reducible first | exact HB.out | apply below_alloc | apply pw_below_drewN | apply below_drew1) | exact HB.out))) : w.heap.size ≤ gbx0)); have n5_ := Aside0.mk ((by rw [hg]; exact (below_size (by repeat (first | (with_reducible first | exact HB.out | apply below_alloc | apply pw_below_drewN | apply below_drew1) | exact HB.out))) : w.heap.size ≤ gbx0)); clear HO_1; clear HO_15; clear HB; have HO_1 := n0_; have HO_15 := n1_; have HB := n2_; have BKx0 := n3_; have GWx0 := n4_; have GEx0 := n5_; clear n0_ n1_ n2_ n3_ n4_ n5_; clear hb hbox hg; have hczx1_0 : wx0.cell? ⟨gbx0, 0, none⟩ = some (.int .i64 0) := (blk_cell BKx0.out 0).trans rfl; have hczx1_1 : wx0.cell? ⟨gbx0, 1, none⟩ = some (.int .i64 0) := (blk_cell BKx0.out 1).trans rfl; have hczx1_2 : wx0.cell? ⟨gbx0, 2, none⟩ = some (.bool false) := (blk_cell BKx0.out 2).trans rfl; have hfzx1_0 := blk_frozen BKx0.out 0; have hfzx1_1 := blk_frozen BKx0.out 1; have hfzx1_2 := blk_frozen BKx0.out 2) | ((with_reducible refine gate_dst (N := 6) rfl ?_); refine box_event ?hg (N := 6) ?hd (cs := #[.int .i64 0, .int .i64 0, .bool false]) (t := 25) ?hr ?_; (case hd => rfl); (case hg => rfl); (case hr => first | (go_simp; done) | (go_simp; rfl)); intro gbx0 hg wx0 hbox hb; have n0_ := Aside0.mk (Kd.R_below (Kd.R_elderB (by (with_reducible repeat (first | apply Kd.R_alloc | apply Kd.R_drewN | apply Kd.R_drew)); exact HO_1.out) gbx0 (Nat.le_of_eq hg.symm)) hb); have n1_ := Aside0.mk (Kd.R_below (by (with_reducible repeat (first | apply Kd.R_alloc | apply Kd.R_drewN | apply Kd.R_drew)); exact HO_15.out) hb); have n2_ := Aside0.mk (below_step (by repeat (first | (with_reducible first | exact HB.out | apply below_alloc | apply pw_below_drewN | apply below_drew1) | exact HB.out)) hb); have n3_ := Aside0.mk (hbox); have n4_ := Aside0.mk ((by rw [hg]; exact (below_size (by repeat (first | (with_reducible first | exact HB.out | apply below_alloc | apply pw_below_drewN | apply below_drew1) | exact HB.out))) : w.heap.size ≤ gbx0)); have n5_ := Aside0.mk ((by rw [hg]; exact (below_size (by repeat (first | (with_reducible first | exact HB.out | apply below_alloc | apply pw_below_drewN | apply below_drew1) | exact HB.out))) : w.heap.size ≤ gbx0)); clear HO_1; clear HO_15; clear HB; have HO_1 := n0_; have HO_15 := n1_; have HB := n2_; have BKx0 := n3_; have GWx0 := n4_; have GEx0 := n5_; clear n0_ n1_ n2_ n3_ n4_ n5_; clear hb hbox hg; have hczx3_0 : wx0.cell? ⟨gbx0, 0, none⟩ = some (.int .i64 0) := (blk_cell BKx0.out 0).trans rfl; have hczx3_1 : wx0.cell? ⟨gbx0, 1, none⟩ = some (.int .i64 0) := (blk_cell BKx0.out 1).trans rfl; have hczx3_2 : wx0.cell? ⟨gbx0, 2, none⟩ = some (.bool false) := (blk_cell BKx0.out 2).trans rfl; have hfzx3_0 := blk_frozen BKx0.out 0; have hfzx3_1 := blk_frozen BKx0.out 1; have hfzx3_2 := blk_frozen BKx0.out 2) | ((with_reducible refine gate_callee (f := 44) rfl ?_); refine goesL_ (some 26) rfl rfl Try.func44 (by kernel_rfl) rfl #[.agg #[.int .i64 x2_1, .int .i64 x3_2, .bool (rdOf false y170 x17_3)]] rfl (by (try simp only [List.map_toArray, List.map_cons, List.map_nil]); first | done | rfl | (simp only [List.length_drop, List.length_take]; rfl)) ?_; (with_reducible refine (spec_plGood.calls x2_1 x3_2 (rdOf false y170 x17_3) _ _ A9.out).mono ?_); rintro e wx1 ⟨rfl, hb⟩; refine ⟨_, rfl, ?_⟩; have n0_ := Aside0.mk (Kd.R_below (by (with_reducible repeat (first | apply Kd.R_alloc | apply Kd.R_drewN | apply Kd.R_drew)); exact (Kd.R_mono (Kd.R_far (p := ⟨gbx0, 2, none⟩) (Kd.R_far (p := ⟨gbx0, 1, none⟩) (Kd.R_far (p := ⟨gbx0, 0, none⟩) (Kd.R_mono HO_1.out (fun k_ hk => (⟨hk, hk.2⟩ : _ ∧ k_ ≠ gbx0))) (fun _ hk => hk.2) (.int .i64 x2_1)) (fun _ hk => hk.2) (.int .i64 x3_2)) (fun _ hk => hk.2) (.bool (rdOf false y170 x17_3))) (fun _ h_ => h_.1))) hb); have n1_ := Aside0.mk (Kd.R_below (by (with_reducible repeat (first | apply Kd.R_alloc | apply Kd.R_drewN | apply Kd.R_drew)); exact (Kd.R_mono (Kd.R_far (p := ⟨gbx0, 2, none⟩) (Kd.R_far (p := ⟨gbx0, 1, none⟩) (Kd.R_far (p := ⟨gbx0, 0, none⟩) (Kd.R_types HO_15.out BKx0.out (by decide)) (fun _ hk => hk.2) (.int .i64 x2_1)) (fun _ hk => hk.2) (.int .i64 x3_2)) (fun _ hk => hk.2) (.bool (rdOf false y170 x17_3))) (fun _ h_ => h_.1))) hb); have n2_ := Aside0.mk (blk_below (g := gbx0) (o := .cells #[.int .i64 x2_1, .int .i64 x3_2, .bool (rdOf false y170 x17_3)] 25 (0, 0)) (by (with_reducible repeat (first | refine blk_drewN ?_ _ | refine blk_drew ?_ | refine blk_alloc ?_ _)); refine blk_put (cs := #[.int .i64 x2_1, .int .i64 x3_2, .bool false]) ?_ 2 _ rfl; (with_reducible repeat (first | refine blk_drewN ?_ _ | refine blk_drew ?_ | refine blk_alloc ?_ _)); refine blk_put (cs := #[.int .i64 x2_1, .int .i64 0, .bool false]) ?_ 1 _ rfl; (with_reducible repeat (first | refine blk_drewN ?_ _ | refine blk_drew ?_ | refine blk_alloc ?_ _)); refine blk_put (cs := #[.int .i64 0, .int .i64 0, .bool false]) ?_ 0 _ rfl; (with_reducible repeat (first | refine blk_drewN ?_ _ | refine blk_drew ?_ | refine blk_alloc ?_ _)); exact BKx0.out) hb); have n3_ := Aside0.mk (below_step (by repeat (first | (with_reducible first | exact HB.out | apply below_alloc | apply pw_below_drewN | apply below_drew1 | refine below_set ?_ GEx0.out) | exact HB.out)) hb); clear HO_1; clear HO_15; clear BKx0; clear HB; have HO_1 := n0_; have HO_15 := n1_; have BKx0 := n2_; have HB := n3_; clear n0_ n1_ n2_ n3_; (try clear hb); (try clear hb2); (try clear hk); (try clear hi); have hczx4_0 : wx1.cell? ⟨gbx0, 0, none⟩ = some (.int .i64 x2_1) := (blk_cell BKx0.out 0).trans rfl; have hczx4_1 : wx1.cell? ⟨gbx0, 1, none⟩ = some (.int .i64 x3_2) := (blk_cell BKx0.out 1).trans rfl; have hczx4_2 : wx1.cell? ⟨gbx0, 2, none⟩ = some (.bool (rdOf false y170 x17_3)) := (blk_cell BKx0.out 2).trans rfl; have hfzx4_0 := blk_frozen BKx0.out 0; have hfzx4_1 := blk_frozen BKx0.out 1; have hfzx4_2 := blk_frozen BKx0.out 2) | ((with_reducible refine gate_builtin (b := .append) (xs := #[.tmp 27, .tmp 29]) rfl ?_); at_builtin; refine Kd.R_append k25 (w0 := w) w.heap.size rfl (.tmp 27) (.tmp 29) 37 25 (.agg #[(.int .i64 0), (.int .i64 0), (.bool false)]) 24 rfl Try.underlying37 info25 rfl (by decide) (by omega) u1 x1_3 (⟨x2_1, x3_2, rdOf false y170 x17_3⟩ : S25) [.int .i64 x2_1, .int .i64 x3_2, .bool (rdOf false y170 x17_3)] (fun k_ => k_ ≠ gbx0) (fun _ => False) rfl rfl ?aP (fun _ hk => hk.elim) ?aF ?aO ?aB ?aS ?aL ?_; (case aP => exact k25_mkM _ _ _ (⟨x2_1, x3_2, rdOf false y170 x17_3⟩ : S25)); (case aB => exact (by repeat (first | (with_reducible first | exact HB.out | apply below_alloc | apply pw_below_drewN | apply below_drew1 | refine below_set ?_ GEx0.out) | exact HB.out))); (case aF => exact (fun k_ hk => Kd.freshB (g := gbx0) (o := .cells #[.int .i64 x2_1, .int .i64 x3_2, .bool (rdOf false y170 x17_3)] 25 (0, 0)) (by (with_reducible repeat (first | refine blk_drewN ?_ _ | refine blk_drew ?_ | refine blk_alloc ?_ _)); exact BKx0.out) k_ hk)); (case aO => exact (by (with_reducible repeat (first | apply Kd.R_alloc | apply Kd.R_drewN | apply Kd.R_drew)); exact Kd.R_mono HO_1.out (fun _ hk => hk.2))); (case aS => exact (below_size (by repeat (first | (with_reducible first | exact HB.out | apply below_alloc | apply pw_below_drewN | apply below_drew1 | refine below_set ?_ GEx0.out) | exact HB.out)))); (case aL => have := LMcx0.out; omega); intro vx5 wx2 ho hb hg hat; rw [← Nyx1.out] at ho; have n0_ := Aside0.mk (Kd.R_over' (by (with_reducible repeat (first | apply Kd.R_alloc | apply Kd.R_drewN | apply Kd.R_drew)); exact HO_15.out) (Kd.R_typed (by (with_reducible repeat (first | apply Kd.R_alloc | apply Kd.R_drewN | apply Kd.R_drew)); exact HO_1.out)) (by decide) hg); have n1_ := Aside0.mk (blk_grown (g := gbx0) (o := .cells #[.int .i64 x2_1, .int .i64 x3_2, .bool (rdOf false y170 x17_3)] 25 (0, 0)) (by (with_reducible repeat (first | refine blk_drewN ?_ _ | refine blk_drew ?_ | refine blk_alloc ?_ _)); exact BKx0.out) hg (Kd.R_away HO_1.out (fun _ hk => hk.2))); have n2_ := Aside0.mk (hb); have n3_ := Aside0.mk (ho); clear HO_15; clear BKx0; clear HB; clear HO_1; have HO_15 := n0_; have BKx0 := n1_; have HB := n2_; have HOx6 := n3_; clear n0_ n1_ n2_ n3_; clear ho hb hg hat))
           ·
            go_roundg k3
            case measure => have := HK1.out; have := HK2.out; have := HK3.out; omega
            case rel => exact ⟨(x1_3), (wrap64 (x17_3 + 1)), (by first | rfl | (simp; done) | (simp [*]; done)), H', ⟨by have := HK1.out; have := HK2.out; have := HK3.out; omega⟩, ⟨by (with_reducible repeat (first | apply Kd.R_alloc | apply Kd.R_drewN | apply Kd.R_drew)); exact Kd.R_mono HO_1.out (fun _ hk => trivial)⟩, ⟨by (with_reducible repeat (first | apply Kd.R_alloc | apply Kd.R_drewN | apply Kd.R_drew)); exact HO_15.out⟩, ⟨by repeat (first | (with_reducible first | exact HB.out | apply below_alloc | apply pw_below_drewN | apply below_drew1 | refine below_set ?_ GEx0.out) | exact HB.out)⟩⟩
           ·
            go_roundg k3
            case measure => have := HK1.out; have := HK2.out; have := HK3.out; omega
            case rel => exact ⟨(y176), (wrap64 (x17_3 + 1)), (by first | rfl | (simp; done) | (simp [*]; done)), H', ⟨by have := HK1.out; have := HK2.out; have := HK3.out; omega⟩, ⟨by (with_reducible repeat (first | apply Kd.R_alloc | apply Kd.R_drewN | apply Kd.R_drew)); exact Kd.R_mono HOx6.out (fun _ hk => trivial)⟩, ⟨by (with_reducible repeat (first | apply Kd.R_alloc | apply Kd.R_drewN | apply Kd.R_drew)); exact HO_15.out⟩, ⟨by repeat (first | (with_reducible first | exact HB.out | apply below_alloc | apply pw_below_drewN | apply below_drew1 | refine below_set ?_ GEx0.out) | exact HB.out)⟩⟩
          ·
           rw [if_neg c6] at H
           have c6b0 : decide (x17_3 < (y170.length : Int)) = false := decide_eq_false c6
           clear c6
           have H' := Aside0.mk H
           clear H
           go_wp2
           go_roundg k3
           case measure => have := HK1.out; have := HK2.out; have := HK3.out; omega
           case rel => exact ⟨(x1_3), (wrap64 (x3_2 + 1)), (by first | rfl | (simp; done) | (simp [*]; done)), H', ⟨by have := HK1.out; have := HK2.out; have := HK3.out; omega⟩, ⟨by (with_reducible repeat (first | apply Kd.R_alloc | apply Kd.R_drewN | apply Kd.R_drew)); exact HO_1.out⟩, ⟨by repeat (first | (with_reducible first | exact HB.out | apply below_alloc | apply pw_below_drewN | apply below_drew1) | exact HB.out)⟩⟩
       ·
        rw [if_neg c2] at H
        have c2b0 : decide (x3_2 ≤ 1) = false := decide_eq_false c2
        clear c2
        have H' := Aside0.mk H
        clear H
        go_wp2
        go_roundg k2
        case measure => have := HK1.out; have := HK2.out; omega
        case rel => exact ⟨(x1_2), (wrap64 (x2_1 + 1)), (by first | rfl | (simp; done) | (simp [*]; done)), H', ⟨by have := HK1.out; have := HK2.out; omega⟩, ⟨by (with_reducible repeat (first | apply Kd.R_alloc | apply Kd.R_drewN | apply Kd.R_drew)); exact HO_1.out⟩, ⟨by repeat (first | (with_reducible first | exact HB.out | apply below_alloc | apply pw_below_drewN | apply below_drew1) | exact HB.out)⟩⟩
    ·
     rw [if_neg c1] at H
     have c1b0 : decide (x2_1 < 10) = false := decide_eq_false c1
     clear c1
     obtain rfl := Option.some.inj H
     go_wp2
     go_ret
     exact ⟨_, by first | rfl | (simp [errW_none, errW_some] <;> rfl) | (simp [*, errW_none, errW_some] <;> rfl), by (with_reducible repeat (first | apply Kd.R_alloc | apply Kd.R_drewN | apply Kd.R_drew)); exact HO_1.out, by repeat (first | (with_reducible first | exact HB.out | apply below_alloc | apply pw_below_drewN | apply below_drew1) | exact HB.out)⟩

end Go.Proofs.Ytmjejlifohghjaa.FC
