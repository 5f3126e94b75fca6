-- laid by pr.py (wip/tools) over the kit's printer; Lean checks it
import Derived.Test.YtaecjbhenknfkaaFDx0
import Derived.Test.YtaecjbhenknfkaaFDx23
import Derived.Test.YtaecjbhenknfkaaFDx25
import Derived.Test.YtaecjbhenknfkaaFDx26
namespace Go.Proofs.Ytaecjbhenknfkaa.FD
open Go.RowKit Go.Proofs.YtaecjbhenknfkaaW.PrintWords Go.Proofs.YtaecjbhenknfkaaW.PrintLast Go.Proofs.YtaecjbhenknfkaaW.PrintMore
attribute [local go_sem] max2_int min2_int max_two min_two max_three min_three max_four min_four   -- for this text's walks alone
set_option linter.unusedVariables false
set_option linter.unusedSimpArgs false

/-! ### spec_DrawNearestShape: function 42 -/
mutual
def spec_DrawNearestShape.j0 : Nat → List (S25) → Int → List Int → Int → Int → Option ((List (S25)) × Int × Int × Int × Int × Int × Bool)
  | 0, _, _, _, _, _ => none
  | k + 1, x5, x6, x505000, x505001, x505002 => spec_DrawNearestShape.l0 k x5 x6 x505000 x505001 x505002
def spec_DrawNearestShape.l0 : Nat → List (S25) → Int → List Int → Int → Int → Option ((List (S25)) × Int × Int × Int × Int × Int × Bool)
  | 0, _, _, _, _, _ => none
  | k + 1, x5, x6, x505000, x505001, x505002 => if (x5.length : Int) < x6 then ((spec_l1Cur_shape.f k x505000 x505001 x505002).bind fun bt517 => (if x5.length < 2932031007402 then (spec_DrawNearestShape.l0 k (x5 ++ [(⟨bt517.1, bt517.2.1, bt517.2.2.1, bt517.2.2.2.1, bt517.2.2.2.2.1, bt517.2.2.2.2.2.1⟩ : S25)]) x6 x505000 bt517.2.2.2.2.2.2.1 bt517.2.2.2.2.2.2.2) else (none))) else (if x6 > 0 then ((spec_l1Cur_one.f x505000 x505001 x505002 24).bind fun bt528 => (spec_DrawNearestShape.j2 k x5 x6 bt528.1 x505000 bt528.2.1 bt528.2.2)) else (spec_DrawNearestShape.j2 k x5 x6 false x505000 x505001 x505002))
def spec_DrawNearestShape.j2 : Nat → List (S25) → Int → Bool → List Int → Int → Int → Option ((List (S25)) × Int × Int × Int × Int × Int × Bool)
  | 0, _, _, _, _, _, _ => none
  | k + 1, x5, x6, x32, x505000, x505001, x505002 => if x32 = true then ((spec_l1Cur_pick.f x505000 x505001 x505002 x6).bind fun bt531 => ((spec_l1Cur_anyShape.f k x505000 bt531.2.1 bt531.2.2).bind fun bt534 => (if 0 ≤ bt531.1 then (if bt531.1 < (x5.length : Int) then ((spec_l1Cur_anyShape.f k x505000 bt534.2.2.2.2.2.2.1 bt534.2.2.2.2.2.2.2).bind fun bt543 => (some ((x5.set (bt531.1 : Int).toNat (⟨bt534.1, bt534.2.1, bt534.2.2.1, bt534.2.2.2.1, bt534.2.2.2.2.1, bt534.2.2.2.2.2.1⟩ : S25)), bt543.1, bt543.2.1, bt543.2.2.1, bt543.2.2.2.1, bt543.2.2.2.2.1, bt543.2.2.2.2.2.1))) else (none)) else (none)))) else ((spec_l1Cur_anyShape.f k x505000 x505001 x505002).bind fun bt551 => (some (x5, bt551.1, bt551.2.1, bt551.2.2.1, bt551.2.2.2.1, bt551.2.2.2.2.1, bt551.2.2.2.2.2.1)))
end
def spec_DrawNearestShape.f (k : Nat) (l0 : List Int) : Option ((List (S25)) × Int × Int × Int × Int × Int × Bool) := (spec_l1Cur_pick.f l0 0 0 6).bind fun bt505 => ((spec_l1Cur_one.f l0 bt505.2.1 bt505.2.2 12).bind fun bt508 => (if bt508.1 = true then ((spec_l1Cur_among.f l0 bt508.2.1 bt508.2.2 (([0, 20, 21] : List Int))).bind fun bt514 => (spec_DrawNearestShape.j0 k ([] : List (S25)) bt514.1 l0 bt514.2.1 bt514.2.2)) else (spec_DrawNearestShape.j0 k ([] : List (S25)) (wrap64 (1 + bt505.1)) l0 bt508.2.1 bt508.2.2)))
theorem spec_DrawNearestShape.mono_l : ∀ k, (∀ y0 y1 y2 y3 y4, LeO (spec_DrawNearestShape.j0 k y0 y1 y2 y3 y4) (spec_DrawNearestShape.j0 (k + 1) y0 y1 y2 y3 y4)) ∧ (∀ y0 y1 y2 y3 y4, LeO (spec_DrawNearestShape.l0 k y0 y1 y2 y3 y4) (spec_DrawNearestShape.l0 (k + 1) y0 y1 y2 y3 y4)) ∧ (∀ y0 y1 y2 y3 y4 y5, LeO (spec_DrawNearestShape.j2 k y0 y1 y2 y3 y4 y5) (spec_DrawNearestShape.j2 (k + 1) y0 y1 y2 y3 y4 y5))
  | 0 => ⟨fun _ _ _ _ _ r h => by simp [spec_DrawNearestShape.j0] at h, fun _ _ _ _ _ r h => by simp [spec_DrawNearestShape.l0] at h, fun _ _ _ _ _ _ r h => by simp [spec_DrawNearestShape.j2] at h⟩
  | k + 1 => by
    obtain ⟨ih0, ih1, ih2⟩ := spec_DrawNearestShape.mono_l k
    refine ⟨?_, ?_, ?_⟩
    · intro y0 y1 y2 y3 y4
      unfold spec_DrawNearestShape.j0
      repeat' first
      | (with_reducible exact ih0 _ _ _ _ _)
      | (with_reducible exact ih1 _ _ _ _ _)
      | (with_reducible exact ih2 _ _ _ _ _ _)
      | (with_reducible exact spec_l1Cur_anyShape.mono _ _ _ _)
      | (with_reducible exact spec_l1Cur_shape.mono _ _ _ _)
      | (with_reducible exact LeO.refl _)
      | (with_reducible exact LeO.none _)
      | (with_reducible refine LeO.ite ?_ ?_)
      | (with_reducible refine LeO.bind ?_ (fun _ => ?_))
      | exact ih0 _ _ _ _ _
      | exact ih1 _ _ _ _ _
      | exact ih2 _ _ _ _ _ _
      | exact spec_l1Cur_anyShape.mono _ _ _ _
      | exact spec_l1Cur_shape.mono _ _ _ _
      | exact LeO.none _
      | refine LeO.ite ?_ ?_
      | refine LeO.bind ?_ (fun _ => ?_)
    · intro y0 y1 y2 y3 y4
      unfold spec_DrawNearestShape.l0
      repeat' first
      | (with_reducible exact ih0 _ _ _ _ _)
      | (with_reducible exact ih1 _ _ _ _ _)
      | (with_reducible exact ih2 _ _ _ _ _ _)
      | (with_reducible exact spec_l1Cur_anyShape.mono _ _ _ _)
      | (with_reducible exact spec_l1Cur_shape.mono _ _ _ _)
      | (with_reducible exact LeO.refl _)
      | (with_reducible exact LeO.none _)
      | (with_reducible refine LeO.ite ?_ ?_)
      | (with_reducible refine LeO.bind ?_ (fun _ => ?_))
      | exact ih0 _ _ _ _ _
      | exact ih1 _ _ _ _ _
      | exact ih2 _ _ _ _ _ _
      | exact spec_l1Cur_anyShape.mono _ _ _ _
      | exact spec_l1Cur_shape.mono _ _ _ _
      | exact LeO.none _
      | refine LeO.ite ?_ ?_
      | refine LeO.bind ?_ (fun _ => ?_)
    · intro y0 y1 y2 y3 y4 y5
      unfold spec_DrawNearestShape.j2
      repeat' first
      | (with_reducible exact ih0 _ _ _ _ _)
      | (with_reducible exact ih1 _ _ _ _ _)
      | (with_reducible exact ih2 _ _ _ _ _ _)
      | (with_reducible exact spec_l1Cur_anyShape.mono _ _ _ _)
      | (with_reducible exact spec_l1Cur_shape.mono _ _ _ _)
      | (with_reducible exact LeO.refl _)
      | (with_reducible exact LeO.none _)
      | (with_reducible refine LeO.ite ?_ ?_)
      | (with_reducible refine LeO.bind ?_ (fun _ => ?_))
      | exact ih0 _ _ _ _ _
      | exact ih1 _ _ _ _ _
      | exact ih2 _ _ _ _ _ _
      | exact spec_l1Cur_anyShape.mono _ _ _ _
      | exact spec_l1Cur_shape.mono _ _ _ _
      | exact LeO.none _
      | refine LeO.ite ?_ ?_
      | refine LeO.bind ?_ (fun _ => ?_)
theorem spec_DrawNearestShape.mono : ∀ a0 k, LeO (spec_DrawNearestShape.f k a0) (spec_DrawNearestShape.f (k + 1) a0) := by
  intro a0 k
  obtain ⟨ih0, ih1, ih2⟩ := spec_DrawNearestShape.mono_l k
  unfold spec_DrawNearestShape.f
  repeat' first
    | (with_reducible exact ih0 _ _ _ _ _)
    | (with_reducible exact ih1 _ _ _ _ _)
    | (with_reducible exact ih2 _ _ _ _ _ _)
    | (with_reducible exact spec_l1Cur_anyShape.mono _ _ _ _)
    | (with_reducible exact spec_l1Cur_shape.mono _ _ _ _)
    | (with_reducible exact LeO.refl _)
    | (with_reducible exact LeO.none _)
    | (with_reducible refine LeO.ite ?_ ?_)
    | (with_reducible refine LeO.bind ?_ (fun _ => ?_))
    | exact ih0 _ _ _ _ _
    | exact ih1 _ _ _ _ _
    | exact ih2 _ _ _ _ _ _
    | exact spec_l1Cur_anyShape.mono _ _ _ _
    | exact spec_l1Cur_shape.mono _ _ _ _
    | exact LeO.none _
    | refine LeO.ite ?_ ?_
    | refine LeO.bind ?_ (fun _ => ?_)
set_option maxHeartbeats 8000000 in
set_option maxRecDepth 100000 in
theorem spec_DrawNearestShape.calls (k : Nat) (A0 : Option Addr) (c0 : Nat) (l0 : List Int) (r1 : List (S25)) (r2 : Int) (r3 : Int) (r4 : Int) (r5 : Int) (r6 : Int) (r7 : Bool) (w : World) (hr0 : Kd.C (Kd.int .u8) w A0 l0.length l0) (hc0 : l0.length ≤ c0) (h : spec_DrawNearestShape.f k l0 = some (r1, r2, r3, r4, r5, r6, r7)) :
    Calls Try.prog 42 #[.slice A0 l0.length c0] w fun e w' => ∃ v0_ : Value, e = .returned (.tuple #[v0_, .agg #[.int .i64 r2, .int .i64 r3, .int .i64 r4, .int .i64 r5, .int .i64 r6, .bool r7]]) ∧ Kd.R k25 25 w' w.heap.size (fun _ => True) v0_ r1 ∧ Below w.heap.size w w' := by
  have hu25 := Try.underlying25
  have hu86 := Try.underlying86
  have HR0 := Aside0.mk hr0
  have HC0 := Aside0.mk hc0
  clear hr0 hc0
  have HB := Aside0.mk (Below.refl w.heap.size w)
  have H : ((spec_l1Cur_pick.f l0 0 0 6).bind fun bt505 => ((spec_l1Cur_one.f l0 bt505.2.1 bt505.2.2 12).bind fun bt508 => (if bt508.1 = true then ((spec_l1Cur_among.f l0 bt508.2.1 bt508.2.2 (([0, 20, 21] : List Int))).bind fun bt514 => (spec_DrawNearestShape.j0 k ([] : List (S25)) bt514.1 l0 bt514.2.1 bt514.2.2)) else (spec_DrawNearestShape.j0 k ([] : List (S25)) (wrap64 (1 + bt505.1)) l0 bt508.2.1 bt508.2.2)))) = some (r1, r2, r3, r4, r5, r6, r7) := h
  clear h
  replace H := Option.bind_eq_some_iff.mp H
  obtain ⟨⟨t505, t506, t507⟩, A20, H⟩ := H
  replace H : ((spec_l1Cur_one.f l0 t506 t507 12).bind fun bt508 => (if bt508.1 = true then ((spec_l1Cur_among.f l0 bt508.2.1 bt508.2.2 (([0, 20, 21] : List Int))).bind fun bt514 => (spec_DrawNearestShape.j0 k ([] : List (S25)) bt514.1 l0 bt514.2.1 bt514.2.2)) else (spec_DrawNearestShape.j0 k ([] : List (S25)) (wrap64 (1 + t505)) l0 bt508.2.1 bt508.2.2))) = some (r1, r2, r3, r4, r5, r6, r7) := H
  have A2 := Aside0.mk A20
  clear A20
  replace H := Option.bind_eq_some_iff.mp H
  obtain ⟨⟨t508, t509, t510⟩, A30, H⟩ := H
  replace H : (if t508 = true then ((spec_l1Cur_among.f l0 t509 t510 (([0, 20, 21] : List Int))).bind fun bt514 => (spec_DrawNearestShape.j0 k ([] : List (S25)) bt514.1 l0 bt514.2.1 bt514.2.2)) else (spec_DrawNearestShape.j0 k ([] : List (S25)) (wrap64 (1 + t505)) l0 t509 t510)) = some (r1, r2, r3, r4, r5, r6, r7) := H
  have A3 := Aside0.mk A30
  clear A30
  have HC4 := Aside0.mk H
  clear H
  go_enter Try.func42, Try.ntmps42
  go_upto_if 14 with (first | ((with_reducible refine gate_dst (N := 3) rfl ?_); refine box_event ?hg (N := 3) ?hd (cs := #[.int .i64 0, .int .i64 0, .int .i64 0, .int .i64 0, .int .i64 0, .bool false]) (t := 25) ?hr ?_; (case hd => rfl); (case hg => rfl); (case hr => first | (go_simp; done) | (go_simp; rfl)); intro gb503 hg w5 hbox hb; have n0_ := Aside0.mk (below_step HB.out hb); have n1_ := Aside0.mk (hbox); have n2_ := Aside0.mk ((by rw [hg]; exact (below_size HB.out) : w.heap.size ≤ gb503)); have n3_ := Aside0.mk ((by rw [hg]; exact (below_size HB.out) : w.heap.size ≤ gb503)); clear HB; have HB := n0_; have BK503 := n1_; have GW503 := n2_; have GE503 := n3_; clear n0_ n1_ n2_ n3_; clear hb hbox hg) | ((with_reducible refine gate_dst (N := 9) rfl ?_); refine box_event ?hg (N := 9) ?hd (cs := #[.slice A0 l0.length c0, .int .i64 0, .int .u64 0]) (t := 86) ?hr ?_; (case hd => rfl); (case hg => rfl); (case hr => first | (go_simp; done) | (go_simp; rfl)); intro gb504 hg w6 hbox hb; have n0_ := Aside0.mk (blk_below BK503.out hb); have n1_ := Aside0.mk (below_step HB.out hb); have n2_ := Aside0.mk ((⟨_, _, hbox, (by rw [hg]; exact (below_size HB.out) : w.heap.size ≤ gb504), HR0.out⟩ : IsS86 w w6 gb504 l0 0 0)); have n3_ := Aside0.mk ((by rw [hg]; exact (below_size HB.out) : w.heap.size ≤ gb504)); have n4_ := Aside0.mk ((by rw [hg]; exact (below_size HB.out) : w.heap.size ≤ gb504)); have n5_ := Aside0.mk ((by rw [hg]; exact Nat.ne_of_lt (blk_lt BK503.out) : gb503 ≠ gb504)); have n6_ := Aside0.mk ((by rw [hg]; exact Nat.ne_of_gt (blk_lt BK503.out) : gb504 ≠ gb503)); clear BK503; clear HB; have BK503 := n0_; have HB := n1_; have HI504 := n2_; have GW504 := n3_; have GE504 := n4_; have NB503_504 := n5_; have NB504_503 := n6_; clear n0_ n1_ n2_ n3_ n4_ n5_ n6_; clear hb hbox hg) | ((with_reducible refine gate_callee (f := 71) rfl ?_); refine goesL_ (some 11) rfl rfl Try.func71 (by kernel_rfl) rfl #[.pointer (some ⟨gb504, 0, none⟩), .int .i64 6] rfl (by (try simp only [List.map_toArray, List.map_cons, List.map_nil]); first | done | rfl | (simp only [List.length_drop, List.length_take]; rfl)) ?_; (with_reducible refine (spec_l1Cur_pick.calls gb504 l0 0 0 6 t505 t506 t507 w _ ?side1 ?side2 A2.out).mono ?_); (case side1 => repeat (first | (with_reducible first | exact HI504.out | apply IsS86.alloc | apply IsS86.drewN | apply IsS86.drew | apply IsS86.set_1 | apply IsS86.set_2 | refine IsS86.far ?_ NB504_503.out _) | exact HI504.out)); (case side2 => repeat (first | (with_reducible first | exact HB.out | apply below_alloc | apply pw_below_drewN | apply below_drew1 | refine below_set ?_ (IsS86.ge HI504.out) | refine below_set ?_ GE503.out) | exact HB.out)); rintro e w7 ⟨rfl, hi, hb, hk⟩; refine ⟨_, rfl, ?_⟩; have n0_ := Aside0.mk (KeepBut.blk hk (g' := gb503) (o := .cells #[.int .i64 0, .int .i64 0, .int .i64 0, .int .i64 0, .int .i64 0, .bool false] 25 (0, 0)) BK503.out NB503_504.out (by simp)); have n1_ := Aside0.mk (hb); have n2_ := Aside0.mk (hi); clear BK503; clear HB; clear HI504; have BK503 := n0_; have HB := n1_; have HI504 := n2_; clear n0_ n1_ n2_; (try clear hb); (try clear hb2); (try clear hk); (try clear hi)) | ((with_reducible refine gate_callee (f := 72) rfl ?_); refine goesL_ (some 14) rfl rfl Try.func72 (by kernel_rfl) rfl #[.pointer (some ⟨gb504, 0, none⟩), .int .i64 12] rfl (by (try simp only [List.map_toArray, List.map_cons, List.map_nil]); first | done | rfl | (simp only [List.length_drop, List.length_take]; rfl)) ?_; (with_reducible refine (spec_l1Cur_one.calls gb504 l0 t506 t507 12 t508 t509 t510 w _ ?side1 ?side2 A3.out).mono ?_); (case side1 => repeat (first | (with_reducible first | exact HI504.out | apply IsS86.alloc | apply IsS86.drewN | apply IsS86.drew | apply IsS86.set_1 | apply IsS86.set_2 | refine IsS86.far ?_ NB504_503.out _) | exact HI504.out)); (case side2 => repeat (first | (with_reducible first | exact HB.out | apply below_alloc | apply pw_below_drewN | apply below_drew1 | refine below_set ?_ (IsS86.ge HI504.out) | refine below_set ?_ GE503.out) | exact HB.out)); rintro e w8 ⟨rfl, hi, hb, hk⟩; refine ⟨_, rfl, ?_⟩; have n0_ := Aside0.mk (KeepBut.blk hk (g' := gb503) (o := .cells #[.int .i64 0, .int .i64 0, .int .i64 0, .int .i64 0, .int .i64 0, .bool false] 25 (0, 0)) BK503.out NB503_504.out (by simp)); have n1_ := Aside0.mk (hb); have n2_ := Aside0.mk (hi); clear BK503; clear HB; clear HI504; have BK503 := n0_; have HB := n1_; have HI504 := n2_; clear n0_ n1_ n2_; (try clear hb); (try clear hb2); (try clear hk); (try clear hi)))
  (try simp only [Act.put, List.setIfInBounds_toArray, List.set_cons_zero, List.set_cons_succ])
  go_cut [6] (fun v6 wc => ∃ (kq : Nat) (x6_3 : Int) (x505001_3 : Int) (x505002_3 : Int), v6 = .int .i64 x6_3 ∧ Aside0 (spec_DrawNearestShape.j0 kq ([] : List (S25)) x6_3 l0 x505001_3 x505002_3 = some (r1, r2, r3, r4, r5, r6, r7)) ∧ Aside0 (kq ≤ k) ∧ Aside0 (Kd.R k25 25 wc w.heap.size (fun k_ => k_ ≠ gb503) (.slice none 0 0) ([] : List (S25))) ∧ Aside0 (wc.heap[gb503]? = some (.cells #[.int .i64 0, .int .i64 0, .int .i64 0, .int .i64 0, .int .i64 0, .bool false] 25 (0, 0))) ∧ Aside0 (IsS86 w wc gb504 l0 x505001_3 x505002_3) ∧ Aside0 (Below w.heap.size w wc))
  case first =>
   have H := HC4.out
   clear HC4
   by_cases c9 : t508 = true
   ·
    subst c9
    have H1 : ((spec_l1Cur_among.f l0 t509 t510 (([0, 20, 21] : List Int))).bind fun bt514 => (spec_DrawNearestShape.j0 k ([] : List (S25)) bt514.1 l0 bt514.2.1 bt514.2.2)) = some (r1, r2, r3, r4, r5, r6, r7) := by rw [if_pos rfl] at H; exact H
    clear H
    have H := H1
    clear H1
    obtain ⟨y511, hy511⟩ : ∃ y_ : List Int, y_ = (([0, 20, 21] : List Int)) := ⟨_, rfl⟩
    replace H : ((spec_l1Cur_among.f l0 t509 t510 y511).bind fun bt514 => (spec_DrawNearestShape.j0 k ([] : List (S25)) bt514.1 l0 bt514.2.1 bt514.2.2)) = some (r1, r2, r3, r4, r5, r6, r7) := by first | (rw [hy511]; with_reducible exact H) | (have H2_ := (Option.bind_some _ _).symm.trans H; rw [hy511]; with_reducible exact H2_) | (have H2_ := (Option.bind_some _ _).symm.trans H; with_reducible exact H2_) | with_reducible exact H | (rw [hy511]; exact H) | exact H
    have Ny511 := Aside0.mk hy511
    clear hy511
    replace H := Option.bind_eq_some_iff.mp H
    obtain ⟨⟨t514, t515, t516⟩, A100, H⟩ := H
    replace H : (spec_DrawNearestShape.j0 k ([] : List (S25)) t514 l0 t515 t516) = some (r1, r2, r3, r4, r5, r6, r7) := H
    have A10 := Aside0.mk A100
    clear A100
    have H' := Aside0.mk H
    clear H
    go_wp2_with (first | ((with_reducible refine gate_dst (N := 16) rfl ?_); refine Kd.R_lit (Kd.int .i64) _ 3 ?hg (N := 16) ?hd (xs := ([0, 20, 21] : List Int)) (inner := [.int .i64 0, .int .i64 20, .int .i64 21]) (ok := fun _ => True) (okp := fun _ => True) ?hr ?hp (fun _ hk => hk) trivial (Below.refl _ _) (Nat.le_refl _) (by simp) ?_; (case hd => rfl); (case hg => rfl); (case hr => first | (go_simp; done) | (go_simp; rfl)); (case hp => exact (Reps.one (show Kd.M (Kd.int .i64) _ _ _ 0 [.int .i64 0] from rfl) (Reps.one (show Kd.M (Kd.int .i64) _ _ _ 20 [.int .i64 20] from rfl) (Reps.one (show Kd.M (Kd.int .i64) _ _ _ 21 [.int .i64 21] from rfl) (Reps.none _ _))))); intro v512 w11 ho12 hb hg_ hnew_; clear hg_ hnew_; (first | rw [← Ny511.out] at ho12 | (simp only [Int.reduceToNat] at ho12; rw [← Ny511.out] at ho12)); have n0_ := Aside0.mk (Kd.R_lower ho12 (below_size (by repeat (first | (with_reducible first | exact HB.out | apply below_alloc | apply pw_below_drewN | apply below_drew1 | refine below_set ?_ (IsS86.ge HI504.out) | refine below_set ?_ GE503.out) | exact HB.out)))); have n1_ := Aside0.mk (blk_below BK503.out hb); have n2_ := Aside0.mk (IsS86.below (by repeat (first | (with_reducible first | exact HI504.out | apply IsS86.alloc | apply IsS86.drewN | apply IsS86.drew | apply IsS86.set_1 | apply IsS86.set_2 | refine IsS86.far ?_ NB504_503.out _) | exact HI504.out)) hb); have n3_ := Aside0.mk (below_step (by repeat (first | (with_reducible first | exact HB.out | apply below_alloc | apply pw_below_drewN | apply below_drew1 | refine below_set ?_ (IsS86.ge HI504.out) | refine below_set ?_ GE503.out) | exact HB.out)) hb); clear BK503; clear HI504; clear HB; have HO513 := n0_; have BK503 := n1_; have HI504 := n2_; have HB := n3_; clear n0_ n1_ n2_ n3_; clear hb ho12; obtain ⟨Ao13, co13, eo13⟩ := Kd.R_slice HO513.out; subst eo13) | ((with_reducible refine gate_callee (f := 69) rfl ?_); refine goesL_ (some 17) rfl rfl Try.func69 (by kernel_rfl) rfl #[.pointer (some ⟨gb504, 0, none⟩), .slice Ao13 y511.length co13] rfl (by (try simp only [List.map_toArray, List.map_cons, List.map_nil]); first | done | rfl | (simp only [List.length_drop, List.length_take]; rfl)) ?_; (with_reducible refine (spec_l1Cur_among.calls gb504 l0 t509 t510 _ _ y511 t514 t515 t516 w _ ?side1 ?side2 ?side3 ?side4 ?side5 A10.out).mono ?_); (case side1 => repeat (first | (with_reducible first | exact HI504.out | apply IsS86.alloc | apply IsS86.drewN | apply IsS86.drew | apply IsS86.set_1 | apply IsS86.set_2 | refine IsS86.far ?_ NB504_503.out _) | exact HI504.out)); (case side2 => repeat (first | (with_reducible first | exact HB.out | apply below_alloc | apply pw_below_drewN | apply below_drew1 | refine below_set ?_ (IsS86.ge HI504.out) | refine below_set ?_ GE503.out) | exact HB.out)); (case side3 => repeat (first | exact (Kd.R_reads' HO513.out).2.2 | (with_reducible refine Kd.C_alloc ?_ _) | (with_reducible refine Kd.C_drewN ?_ _) | (with_reducible refine Kd.C_drew ?_))); (case side4 => exact (Kd.R_reads' HO513.out).2.1); (case side5 => exact far_slice (IsS86.own_ne HI504.out HO513.out (by decide))); rintro e w14 ⟨rfl, hi, hb, hk⟩; refine ⟨_, rfl, ?_⟩; have n0_ := Aside0.mk (KeepBut.blk hk (g' := gb503) (o := .cells #[.int .i64 0, .int .i64 0, .int .i64 0, .int .i64 0, .int .i64 0, .bool false] 25 (0, 0)) BK503.out NB503_504.out (by simp)); have n1_ := Aside0.mk (Kd.R_mono (Kd.R_keep (IsS86.apart (show IsS86 w _ gb504 l0 t509 t510 from by repeat (first | (with_reducible first | exact HI504.out | apply IsS86.alloc | apply IsS86.drewN | apply IsS86.drew | apply IsS86.set_1 | apply IsS86.set_2 | refine IsS86.far ?_ NB504_503.out _) | exact HI504.out)) (by exact HO513.out) (by decide)) hk (fun _ h => h.2)) (fun _ h => h.1)); have n2_ := Aside0.mk (hb); have n3_ := Aside0.mk (hi); clear BK503; clear HO513; clear HB; clear HI504; have BK503 := n0_; have HO513 := n1_; have HB := n2_; have HI504 := n3_; clear n0_ n1_ n2_ n3_; (try clear hb); (try clear hb2); (try clear hk); (try clear hi)))
    go_meet
    case rel => exact ⟨_, (t514), (t515), (t516), (by first | rfl | (simp; done) | (simp [*]; done)), H', ⟨by first | omega | exact Nat.le_refl _⟩, ⟨by first | exact Kd.R_nil _ _ _ _ _ | exact Kd.N_nil _ _ _ _ _ | exact Kd.V_nil _ _ _ _ _ | exact Kd.Q_nil _ _ _ _ _ | exact Kd.S_nil _ _ _ _ _⟩, ⟨by exact BK503.out⟩, ⟨by repeat (first | (with_reducible first | exact HI504.out | apply IsS86.alloc | apply IsS86.drewN | apply IsS86.drew | apply IsS86.set_1 | apply IsS86.set_2 | refine IsS86.far ?_ NB504_503.out _) | exact HI504.out)⟩, ⟨by repeat (first | (with_reducible first | exact HB.out | apply below_alloc | apply pw_below_drewN | apply below_drew1 | refine below_set ?_ (IsS86.ge HI504.out) | refine below_set ?_ GE503.out) | exact HB.out)⟩⟩
   ·
    replace c9 := Bool.eq_false_iff.mpr c9
    subst c9
    have H1 : (spec_DrawNearestShape.j0 k ([] : List (S25)) (wrap64 (1 + t505)) l0 t509 t510) = some (r1, r2, r3, r4, r5, r6, r7) := by rw [if_neg (show ¬ (false = true) by decide)] at H; exact H
    clear H
    have H := H1
    clear H1
    have H' := Aside0.mk H
    clear H
    go_wp2
    go_meet
    case rel => exact ⟨_, (wrap64 (1 + t505)), (t509), (t510), (by first | rfl | (simp; done) | (simp [*]; done)), H', ⟨by first | omega | exact Nat.le_refl _⟩, ⟨by first | exact Kd.R_nil _ _ _ _ _ | exact Kd.N_nil _ _ _ _ _ | exact Kd.V_nil _ _ _ _ _ | exact Kd.Q_nil _ _ _ _ _ | exact Kd.S_nil _ _ _ _ _⟩, ⟨by exact BK503.out⟩, ⟨by repeat (first | (with_reducible first | exact HI504.out | apply IsS86.alloc | apply IsS86.drewN | apply IsS86.drew | apply IsS86.set_1 | apply IsS86.set_2 | refine IsS86.far ?_ NB504_503.out _) | exact HI504.out)⟩, ⟨by repeat (first | (with_reducible first | exact HB.out | apply below_alloc | apply pw_below_drewN | apply below_drew1 | refine below_set ?_ (IsS86.ge HI504.out) | refine below_set ?_ GE503.out) | exact HB.out)⟩⟩
  case rest =>
   clear HC4
   obtain ⟨kq, x6_3, x505001_3, x505002_3, rfl, HA, HJ3, HO_5, BK503, HI504, HB⟩ := hcut
   cases kq with
   | zero => exact absurd HA.out (by simp [spec_DrawNearestShape.j0])
   | succ kj3 =>
    have H := HA.out
    clear HA
    simp only [spec_DrawNearestShape.j0] at H
    have H' := Aside0.mk H
    clear H
    go_wp2
    go_loopg [5] kj3 (fun kq v5 w' => ∃ (x5_2 : List (S25)) (x505001_2 : Int) (x505002_2 : Int), Aside0 (spec_DrawNearestShape.l0 kq x5_2 x6_3 l0 x505001_2 x505002_2 = some (r1, r2, r3, r4, r5, r6, r7)) ∧ Aside0 (kq ≤ kj3) ∧ Aside0 (Kd.R k25 25 w' w.heap.size (fun k_ => k_ ≠ gb503) v5 x5_2) ∧ Aside0 (w'.heap[gb503]? = some (.cells #[.int .i64 0, .int .i64 0, .int .i64 0, .int .i64 0, .int .i64 0, .bool false] 25 (0, 0))) ∧ Aside0 (IsS86 w w' gb504 l0 x505001_2 x505002_2) ∧ Aside0 (Below w.heap.size w w'))
    case atStart => exact ⟨(([] : List (S25))), (x505001_3), (x505002_3), H', ⟨Nat.le_refl _⟩, ⟨by exact HO_5.out⟩, ⟨by exact BK503.out⟩, ⟨by repeat (first | (with_reducible first | exact HI504.out | apply IsS86.alloc | apply IsS86.drewN | apply IsS86.drew | apply IsS86.set_1 | apply IsS86.set_2 | refine IsS86.far ?_ NB504_503.out _) | exact HI504.out)⟩, ⟨by repeat (first | (with_reducible first | exact HB.out | apply below_alloc | apply pw_below_drewN | apply below_drew1 | refine below_set ?_ (IsS86.ge HI504.out) | refine below_set ?_ GE503.out) | exact HB.out)⟩⟩
    case round =>
     clear H'
     obtain ⟨x5_2, x505001_2, x505002_2, HA, HK2, HO_5, BK503, HI504, HB⟩ := hrel
     cases gk with
     | zero => exact absurd HA.out (by simp [spec_DrawNearestShape.l0])
     | succ k2 =>
      have H := HA.out
      clear HA
      simp only [spec_DrawNearestShape.l0] at H
      by_cases c15 : (x5_2.length : Int) < x6_3
      ·
       rw [if_pos c15] at H
       have c15b0 : decide ((x5_2.length : Int) < x6_3) = true := decide_eq_true c15
       clear c15
       replace H := Option.bind_eq_some_iff.mp H
       obtain ⟨⟨t517, t518, t519, t520, t521, t522, t523, t524⟩, A160, H⟩ := H
       replace H : (if x5_2.length < 2932031007402 then (spec_DrawNearestShape.l0 k2 (x5_2 ++ [(⟨t517, t518, t519, t520, t521, t522⟩ : S25)]) x6_3 l0 t523 t524) else (none)) = some (r1, r2, r3, r4, r5, r6, r7) := H
       have A16 := Aside0.mk A160
       clear A160
       by_cases c17 : x5_2.length < 2932031007402
       ·
        rw [if_pos c17] at H
        have LMc17 := Aside0.mk c17
        clear c17
        obtain ⟨y525, hy525⟩ : ∃ y_ : List (S25), y_ = (x5_2 ++ [(⟨t517, t518, t519, t520, t521, t522⟩ : S25)]) := ⟨_, rfl⟩
        replace H : (spec_DrawNearestShape.l0 k2 y525 x6_3 l0 t523 t524) = some (r1, r2, r3, r4, r5, r6, r7) := by first | (rw [hy525]; with_reducible exact H) | (have H2_ := (Option.bind_some _ _).symm.trans H; rw [hy525]; with_reducible exact H2_) | (have H2_ := (Option.bind_some _ _).symm.trans H; with_reducible exact H2_) | with_reducible exact H | (rw [hy525]; exact H) | exact H
        have Ny525 := Aside0.mk hy525
        clear hy525
        have H' := Aside0.mk H
        clear H
        obtain ⟨Ao18, co18, eo18⟩ := Kd.R_slice HO_5.out
        subst eo18
        go_wp2_with (first | ((with_reducible refine gate_callee (f := 73) rfl ?_); refine goesL_ (some 24) rfl rfl Try.func73 (by kernel_rfl) rfl #[.pointer (some ⟨gb504, 0, none⟩)] rfl (by (try simp only [List.map_toArray, List.map_cons, List.map_nil]); first | done | rfl | (simp only [List.length_drop, List.length_take]; rfl)) ?_; (with_reducible refine (spec_l1Cur_shape.calls k2 gb504 l0 x505001_2 x505002_2 t517 t518 t519 t520 t521 t522 t523 t524 w _ ?side1 ?side2 A16.out).mono ?_); (case side1 => repeat (first | (with_reducible first | exact HI504.out | apply IsS86.alloc | apply IsS86.drewN | apply IsS86.drew | apply IsS86.set_1 | apply IsS86.set_2 | refine IsS86.far ?_ NB504_503.out _) | exact HI504.out)); (case side2 => repeat (first | (with_reducible first | exact HB.out | apply below_alloc | apply pw_below_drewN | apply below_drew1 | refine below_set ?_ (IsS86.ge HI504.out) | refine below_set ?_ GE503.out) | exact HB.out)); rintro e w19 ⟨rfl, hi, hb, hk⟩; refine ⟨_, rfl, ?_⟩; have n0_ := Aside0.mk (Kd.R_mono (Kd.R_keep (IsS86.apart (show IsS86 w _ gb504 l0 x505001_2 x505002_2 from by repeat (first | (with_reducible first | exact HI504.out | apply IsS86.alloc | apply IsS86.drewN | apply IsS86.drew | apply IsS86.set_1 | apply IsS86.set_2 | refine IsS86.far ?_ NB504_503.out _) | exact HI504.out)) (by exact HO_5.out) (by decide)) hk (fun _ h => h.2)) (fun _ h => h.1)); have n1_ := Aside0.mk (KeepBut.blk hk (g' := gb503) (o := .cells #[.int .i64 0, .int .i64 0, .int .i64 0, .int .i64 0, .int .i64 0, .bool false] 25 (0, 0)) BK503.out NB503_504.out (by simp)); have n2_ := Aside0.mk (hb); have n3_ := Aside0.mk (hi); clear HO_5; clear BK503; clear HB; clear HI504; have HO_5 := n0_; have BK503 := n1_; have HB := n2_; have HI504 := n3_; clear n0_ n1_ n2_ n3_; (try clear hb); (try clear hb2); (try clear hk); (try clear hi)) | ((with_reducible refine gate_builtin (b := .append) (xs := #[.tmp 22, .tmp 25]) rfl ?_); at_builtin; refine Kd.R_append k25 (w0 := w) w.heap.size rfl (.tmp 22) (.tmp 25) 44 25 (.agg #[(.int .i64 0), (.int .i64 0), (.int .i64 0), (.int .i64 0), (.int .i64 0), (.bool false)]) 48 rfl Try.underlying44 info25 rfl (by decide) (by omega) (.slice Ao18 x5_2.length co18) x5_2 (⟨t517, t518, t519, t520, t521, t522⟩ : S25) [.int .i64 t517, .int .i64 t518, .int .i64 t519, .int .i64 t520, .int .i64 t521, .bool t522] (fun k_ => k_ ≠ gb503) (fun _ => False) rfl rfl ?aP (fun _ hk => hk.elim) ?aF ?aO ?aB ?aS ?aL ?_; (case aP => exact k25_mkM _ _ _ (⟨t517, t518, t519, t520, t521, t522⟩ : S25)); (case aB => exact (by repeat (first | (with_reducible first | exact HB.out | apply below_alloc | apply pw_below_drewN | apply below_drew1 | refine below_set ?_ (IsS86.ge HI504.out) | refine below_set ?_ GE503.out) | exact HB.out))); (case aF => exact (fun k_ hk => Kd.freshB (g := gb503) (o := .cells #[.int .i64 0, .int .i64 0, .int .i64 0, .int .i64 0, .int .i64 0, .bool false] 25 (0, 0)) BK503.out k_ hk)); (case aO => exact (by exact HO_5.out)); (case aS => exact (below_size (by repeat (first | (with_reducible first | exact HB.out | apply below_alloc | apply pw_below_drewN | apply below_drew1 | refine below_set ?_ (IsS86.ge HI504.out) | refine below_set ?_ GE503.out) | exact HB.out)))); (case aL => have := LMc17.out; omega); intro v526 w20 ho hb hg hat; rw [← Ny525.out] at ho; have n0_ := Aside0.mk (blk_grown (g := gb503) (o := .cells #[.int .i64 0, .int .i64 0, .int .i64 0, .int .i64 0, .int .i64 0, .bool false] 25 (0, 0)) BK503.out hg (Kd.R_away HO_5.out (fun _ hk => hk))); have n1_ := Aside0.mk (IsS86.grown (by repeat (first | (with_reducible first | exact HI504.out | apply IsS86.alloc | apply IsS86.drewN | apply IsS86.drew | apply IsS86.set_1 | apply IsS86.set_2 | refine IsS86.far ?_ NB504_503.out _) | exact HI504.out)) hg (IsS86.own_ne HI504.out HO_5.out (by decide))); have n2_ := Aside0.mk (hb); have n3_ := Aside0.mk (ho); clear BK503; clear HI504; clear HB; clear HO_5; have BK503 := n0_; have HI504 := n1_; have HB := n2_; have HO527 := n3_; clear n0_ n1_ n2_ n3_; clear ho hb hg hat))
        go_roundg k2
        case measure => have := HJ3.out; have := HK2.out; omega
        case rel => exact ⟨(y525), (t523), (t524), H', ⟨by have := HJ3.out; have := HK2.out; omega⟩, ⟨by exact HO527.out⟩, ⟨by exact BK503.out⟩, ⟨by repeat (first | (with_reducible first | exact HI504.out | apply IsS86.alloc | apply IsS86.drewN | apply IsS86.drew | apply IsS86.set_1 | apply IsS86.set_2 | refine IsS86.far ?_ NB504_503.out _) | exact HI504.out)⟩, ⟨by repeat (first | (with_reducible first | exact HB.out | apply below_alloc | apply pw_below_drewN | apply below_drew1 | refine below_set ?_ (IsS86.ge HI504.out) | refine below_set ?_ GE503.out) | exact HB.out)⟩⟩
       · rw [if_neg c17] at H
         exact absurd H (by simp)
      ·
       rw [if_neg c15] at H
       have c15b0 : decide ((x5_2.length : Int) < x6_3) = false := decide_eq_false c15
       clear c15
       have HC21 := Aside0.mk H
       clear H
       obtain ⟨Ao22, co22, eo22⟩ := Kd.R_slice HO_5.out
       subst eo22
       go_upto_region 8 with (fail)
       go_cut [32] (fun v32 wc => ∃ (kq : Nat) (x32_20 : Bool) (x505001_20 : Int) (x505002_20 : Int), v32 = .bool x32_20 ∧ Aside0 (spec_DrawNearestShape.j2 kq x5_2 x6_3 x32_20 l0 x505001_20 x505002_20 = some (r1, r2, r3, r4, r5, r6, r7)) ∧ Aside0 (kq ≤ k2) ∧ Aside0 (Kd.R k25 25 wc w.heap.size (fun k_ => k_ ≠ gb503) (.slice Ao22 x5_2.length co22) x5_2) ∧ Aside0 (wc.heap[gb503]? = some (.cells #[.int .i64 0, .int .i64 0, .int .i64 0, .int .i64 0, .int .i64 0, .bool false] 25 (0, 0))) ∧ Aside0 (IsS86 w wc gb504 l0 x505001_20 x505002_20) ∧ Aside0 (Below w.heap.size w wc))
       case first =>
        have H := HC21.out
        clear HC21
        by_cases c23 : x6_3 > 0
        ·
         rw [if_pos c23] at H
         have c23b0 : decide (0 < x6_3) = true := decide_eq_true c23
         clear c23
         (first | rw [c23b0] | (simp only [i64_w, i32_w]; rw [c23b0]) | skip)
         replace H := Option.bind_eq_some_iff.mp H
         obtain ⟨⟨t528, t529, t530⟩, A240, H⟩ := H
         replace H : (spec_DrawNearestShape.j2 k2 x5_2 x6_3 t528 l0 t529 t530) = some (r1, r2, r3, r4, r5, r6, r7) := H
         have A24 := Aside0.mk A240
         clear A240
         have H' := Aside0.mk H
         clear H
         go_wp2_with (first | (go_at_call 72; (with_reducible refine (spec_l1Cur_one.calls gb504 l0 x505001_2 x505002_2 24 t528 t529 t530 w _ ?side1 ?side2 A24.out).mono ?_); (case side1 => repeat (first | (with_reducible first | exact HI504.out | apply IsS86.alloc | apply IsS86.drewN | apply IsS86.drew | apply IsS86.set_1 | apply IsS86.set_2 | refine IsS86.far ?_ NB504_503.out _) | exact HI504.out)); (case side2 => repeat (first | (with_reducible first | exact HB.out | apply below_alloc | apply pw_below_drewN | apply below_drew1 | refine below_set ?_ (IsS86.ge HI504.out) | refine below_set ?_ GE503.out) | exact HB.out)); rintro e w25 ⟨rfl, hi, hb, hk⟩; have n0_ := Aside0.mk (Kd.R_mono (Kd.R_keep (IsS86.apart (show IsS86 w _ gb504 l0 x505001_2 x505002_2 from by repeat (first | (with_reducible first | exact HI504.out | apply IsS86.alloc | apply IsS86.drewN | apply IsS86.drew | apply IsS86.set_1 | apply IsS86.set_2 | refine IsS86.far ?_ NB504_503.out _) | exact HI504.out)) (by exact HO_5.out) (by decide)) hk (fun _ h => h.2)) (fun _ h => h.1)); have n1_ := Aside0.mk (KeepBut.blk hk (g' := gb503) (o := .cells #[.int .i64 0, .int .i64 0, .int .i64 0, .int .i64 0, .int .i64 0, .bool false] 25 (0, 0)) BK503.out NB503_504.out (by simp)); have n2_ := Aside0.mk (hb); have n3_ := Aside0.mk (hi); clear HO_5; clear BK503; clear HB; clear HI504; have HO_5 := n0_; have BK503 := n1_; have HB := n2_; have HI504 := n3_; clear n0_ n1_ n2_ n3_; (try clear hb); (try clear hb2); (try clear hk); (try clear hi)))
         go_meet
         case rel => exact ⟨_, (t528), (t529), (t530), (by first | rfl | (simp; done) | (simp [*]; done)), H', ⟨by have := HJ3.out; have := HK2.out; first | omega | exact Nat.le_refl _⟩, ⟨by exact HO_5.out⟩, ⟨by exact BK503.out⟩, ⟨by repeat (first | (with_reducible first | exact HI504.out | apply IsS86.alloc | apply IsS86.drewN | apply IsS86.drew | apply IsS86.set_1 | apply IsS86.set_2 | refine IsS86.far ?_ NB504_503.out _) | exact HI504.out)⟩, ⟨by repeat (first | (with_reducible first | exact HB.out | apply below_alloc | apply pw_below_drewN | apply below_drew1 | refine below_set ?_ (IsS86.ge HI504.out) | refine below_set ?_ GE503.out) | exact HB.out)⟩⟩
        ·
         rw [if_neg c23] at H
         have c23b0 : decide (0 < x6_3) = false := decide_eq_false c23
         clear c23
         (first | rw [c23b0] | (simp only [i64_w, i32_w]; rw [c23b0]) | skip)
         have H' := Aside0.mk H
         clear H
         go_wp2
         go_meet
         case rel => exact ⟨_, (false), (x505001_2), (x505002_2), (by first | rfl | (simp; done) | (simp [*]; done)), H', ⟨by have := HJ3.out; have := HK2.out; first | omega | exact Nat.le_refl _⟩, ⟨by exact HO_5.out⟩, ⟨by exact BK503.out⟩, ⟨by repeat (first | (with_reducible first | exact HI504.out | apply IsS86.alloc | apply IsS86.drewN | apply IsS86.drew | apply IsS86.set_1 | apply IsS86.set_2 | refine IsS86.far ?_ NB504_503.out _) | exact HI504.out)⟩, ⟨by repeat (first | (with_reducible first | exact HB.out | apply below_alloc | apply pw_below_drewN | apply below_drew1 | refine below_set ?_ (IsS86.ge HI504.out) | refine below_set ?_ GE503.out) | exact HB.out)⟩⟩
       case rest =>
        clear HC21
        (try clear c15b0); (try clear c23b0)
        obtain ⟨kq, x32_20, x505001_20, x505002_20, rfl, HA, HJ20, HO_5, BK503, HI504, HB⟩ := hcut
        cases kq with
        | zero => exact absurd HA.out (by simp [spec_DrawNearestShape.j2])
        | succ kj20 =>
         have H := HA.out
         clear HA
         simp only [spec_DrawNearestShape.j2] at H
         refine dite (x32_20 = true) (fun c26 => ?qp52) (fun c26 => ?qn52)
         case' qp52 =>
          subst c26
          have H1 : ((spec_l1Cur_pick.f l0 x505001_20 x505002_20 x6_3).bind fun bt531 => ((spec_l1Cur_anyShape.f kj20 l0 bt531.2.1 bt531.2.2).bind fun bt534 => (if 0 ≤ bt531.1 then (if bt531.1 < (x5_2.length : Int) then ((spec_l1Cur_anyShape.f kj20 l0 bt534.2.2.2.2.2.2.1 bt534.2.2.2.2.2.2.2).bind fun bt543 => (some ((x5_2.set (bt531.1 : Int).toNat (⟨bt534.1, bt534.2.1, bt534.2.2.1, bt534.2.2.2.1, bt534.2.2.2.2.1, bt534.2.2.2.2.2.1⟩ : S25)), bt543.1, bt543.2.1, bt543.2.2.1, bt543.2.2.2.1, bt543.2.2.2.2.1, bt543.2.2.2.2.2.1))) else (none)) else (none)))) = some (r1, r2, r3, r4, r5, r6, r7) := by rw [if_pos rfl] at H; exact H
          clear H
          have H := H1
          clear H1
          replace H := Option.bind_eq_some_iff.mp H
          obtain ⟨⟨t531, t532, t533⟩, A270, H⟩ := H
          replace H : ((spec_l1Cur_anyShape.f kj20 l0 t532 t533).bind fun bt534 => (if 0 ≤ t531 then (if t531 < (x5_2.length : Int) then ((spec_l1Cur_anyShape.f kj20 l0 bt534.2.2.2.2.2.2.1 bt534.2.2.2.2.2.2.2).bind fun bt543 => (some ((x5_2.set (t531 : Int).toNat (⟨bt534.1, bt534.2.1, bt534.2.2.1, bt534.2.2.2.1, bt534.2.2.2.2.1, bt534.2.2.2.2.2.1⟩ : S25)), bt543.1, bt543.2.1, bt543.2.2.1, bt543.2.2.2.1, bt543.2.2.2.2.1, bt543.2.2.2.2.2.1))) else (none)) else (none))) = some (r1, r2, r3, r4, r5, r6, r7) := H
          have A27 := Aside0.mk A270
          clear A270
          replace H := Option.bind_eq_some_iff.mp H
          obtain ⟨⟨t534, t535, t536, t537, t538, t539, t540, t541⟩, A280, H⟩ := H
          replace H : (if 0 ≤ t531 then (if t531 < (x5_2.length : Int) then ((spec_l1Cur_anyShape.f kj20 l0 t540 t541).bind fun bt543 => (some ((x5_2.set (t531 : Int).toNat (⟨t534, t535, t536, t537, t538, t539⟩ : S25)), bt543.1, bt543.2.1, bt543.2.2.1, bt543.2.2.2.1, bt543.2.2.2.2.1, bt543.2.2.2.2.2.1))) else (none)) else (none)) = some (r1, r2, r3, r4, r5, r6, r7) := H
          have A28 := Aside0.mk A280
          clear A280
          refine dite (0 ≤ t531) (fun c29 => ?qp53) (fun c29 => ?qn53)
          case' qp53 =>
           rw [if_pos c29] at H
           have c29b0 : decide (0 ≤ t531) = true := decide_eq_true c29
           clear c29
           refine dite (t531 < (x5_2.length : Int)) (fun c30 => ?qp54) (fun c30 => ?qn54)
           case' qp54 =>
            rw [if_pos c30] at H
            have c30b0 : decide (t531 < (x5_2.length : Int)) = true := decide_eq_true c30
            clear c30
            obtain ⟨y542, hy542⟩ : ∃ y_ : List (S25), y_ = (x5_2.set (t531 : Int).toNat (⟨t534, t535, t536, t537, t538, t539⟩ : S25)) := ⟨_, rfl⟩
            replace H : ((spec_l1Cur_anyShape.f kj20 l0 t540 t541).bind fun bt543 => (some (y542, bt543.1, bt543.2.1, bt543.2.2.1, bt543.2.2.2.1, bt543.2.2.2.2.1, bt543.2.2.2.2.2.1))) = some (r1, r2, r3, r4, r5, r6, r7) := by first | (rw [hy542]; with_reducible exact H) | (have H2_ := (Option.bind_some _ _).symm.trans H; rw [hy542]; with_reducible exact H2_) | (have H2_ := (Option.bind_some _ _).symm.trans H; with_reducible exact H2_) | with_reducible exact H | (rw [hy542]; exact H) | exact H
            have Nyx0 := Aside0.mk hy542
            clear hy542
            replace H := Option.bind_eq_some_iff.mp H
            obtain ⟨⟨t543, t544, t545, t546, t547, t548, t549, t550⟩, A320, H⟩ := H
            replace H : (some (y542, t543, t544, t545, t546, t547, t548)) = some (r1, r2, r3, r4, r5, r6, r7) := H
            have A32 := Aside0.mk A320
            clear A320
           case' qn54 =>
            rw [if_neg c30] at H
            exact absurd H (by simp)
          case' qn53 =>
           rw [if_neg c29] at H
           exact absurd H (by simp)
         case' qn52 =>
          replace c26 := Bool.eq_false_iff.mpr c26
          subst c26
          have H1 : ((spec_l1Cur_anyShape.f kj20 l0 x505001_20 x505002_20).bind fun bt551 => (some (x5_2, bt551.1, bt551.2.1, bt551.2.2.1, bt551.2.2.2.1, bt551.2.2.2.2.1, bt551.2.2.2.2.2.1))) = some (r1, r2, r3, r4, r5, r6, r7) := by rw [if_neg (show ¬ (false = true) by decide)] at H; exact H
          clear H
          have H := H1
          clear H1
          replace H := Option.bind_eq_some_iff.mp H
          obtain ⟨⟨t551, t552, t553, t554, t555, t556, t557, t558⟩, A400, H⟩ := H
          replace H : (some (x5_2, t551, t552, t553, t554, t555, t556)) = some (r1, r2, r3, r4, r5, r6, r7) := H
          have A40 := Aside0.mk A400
          clear A400
         all_goals
          simp only [Option.some.injEq, Prod.mk.injEq] at H
          obtain ⟨rfl, rfl, rfl, rfl, rfl, rfl, rfl⟩ := H
          go_wp2_with (first | ((with_reducible refine gate_callee (f := 68) rfl ?_); refine goesL_ (some 42) rfl rfl Try.func68 (by kernel_rfl) rfl #[.pointer (some ⟨gb504, 0, none⟩)] rfl (by (try simp only [List.map_toArray, List.map_cons, List.map_nil]); first | done | rfl | (simp only [List.length_drop, List.length_take]; rfl)) ?_; (with_reducible refine (spec_l1Cur_anyShape.calls kj20 gb504 l0 x505001_20 x505002_20 t551 t552 t553 t554 t555 t556 t557 t558 w _ ?side1 ?side2 A40.out).mono ?_); (case side1 => repeat (first | (with_reducible first | exact HI504.out | apply IsS86.alloc | apply IsS86.drewN | apply IsS86.drew | apply IsS86.set_1 | apply IsS86.set_2 | refine IsS86.far ?_ NB504_503.out _) | exact HI504.out)); (case side2 => repeat (first | (with_reducible first | exact HB.out | apply below_alloc | apply pw_below_drewN | apply below_drew1 | refine below_set ?_ (IsS86.ge HI504.out) | refine below_set ?_ GE503.out) | exact HB.out)); rintro e wx0 ⟨rfl, hi, hb, hk⟩; refine ⟨_, rfl, ?_⟩; have n0_ := Aside0.mk (Kd.R_mono (Kd.R_keep (IsS86.apart (show IsS86 w _ gb504 l0 x505001_20 x505002_20 from by repeat (first | (with_reducible first | exact HI504.out | apply IsS86.alloc | apply IsS86.drewN | apply IsS86.drew | apply IsS86.set_1 | apply IsS86.set_2 | refine IsS86.far ?_ NB504_503.out _) | exact HI504.out)) (by exact HO_5.out) (by decide)) hk (fun _ h => h.2)) (fun _ h => h.1)); have n1_ := Aside0.mk (KeepBut.blk hk (g' := gb503) (o := .cells #[.int .i64 0, .int .i64 0, .int .i64 0, .int .i64 0, .int .i64 0, .bool false] 25 (0, 0)) BK503.out NB503_504.out (by simp)); have n2_ := Aside0.mk (hb); have n3_ := Aside0.mk (hi); clear HO_5; clear BK503; clear HB; clear HI504; have HO_5 := n0_; have BK503 := n1_; have HB := n2_; have HI504 := n3_; clear n0_ n1_ n2_ n3_; (try clear hb); (try clear hb2); (try clear hk); (try clear hi); have hnbx0 := NB503_504.out; have hncx0 := NB504_503.out; have hczx1_0 : wx0.cell? ⟨gb503, 0, none⟩ = some (.int .i64 0) := (blk_cell BK503.out 0).trans rfl; have hczx1_1 : wx0.cell? ⟨gb503, 1, none⟩ = some (.int .i64 0) := (blk_cell BK503.out 1).trans rfl; have hczx1_2 : wx0.cell? ⟨gb503, 2, none⟩ = some (.int .i64 0) := (blk_cell BK503.out 2).trans rfl; have hczx1_3 : wx0.cell? ⟨gb503, 3, none⟩ = some (.int .i64 0) := (blk_cell BK503.out 3).trans rfl; have hczx1_4 : wx0.cell? ⟨gb503, 4, none⟩ = some (.int .i64 0) := (blk_cell BK503.out 4).trans rfl; have hczx1_5 : wx0.cell? ⟨gb503, 5, none⟩ = some (.bool false) := (blk_cell BK503.out 5).trans rfl; have hfzx1_0 := blk_frozen BK503.out 0; have hfzx1_1 := blk_frozen BK503.out 1; have hfzx1_2 := blk_frozen BK503.out 2; have hfzx1_3 := blk_frozen BK503.out 3; have hfzx1_4 := blk_frozen BK503.out 4; have hfzx1_5 := blk_frozen BK503.out 5) | ((with_reducible refine gate_callee (f := 71) rfl ?_); refine goesL_ (some 36) rfl rfl Try.func71 (by kernel_rfl) rfl #[.pointer (some ⟨gb504, 0, none⟩), .int .i64 x6_3] rfl (by (try simp only [List.map_toArray, List.map_cons, List.map_nil]); first | done | rfl | (simp only [List.length_drop, List.length_take]; rfl)) ?_; (with_reducible refine (spec_l1Cur_pick.calls gb504 l0 x505001_20 x505002_20 x6_3 t531 t532 t533 w _ ?side1 ?side2 A27.out).mono ?_); (case side1 => repeat (first | (with_reducible first | exact HI504.out | apply IsS86.alloc | apply IsS86.drewN | apply IsS86.drew | apply IsS86.set_1 | apply IsS86.set_2 | refine IsS86.far ?_ NB504_503.out _) | exact HI504.out)); (case side2 => repeat (first | (with_reducible first | exact HB.out | apply below_alloc | apply pw_below_drewN | apply below_drew1 | refine below_set ?_ (IsS86.ge HI504.out) | refine below_set ?_ GE503.out) | exact HB.out)); rintro e wx0 ⟨rfl, hi, hb, hk⟩; refine ⟨_, rfl, ?_⟩; have n0_ := Aside0.mk (Kd.R_mono (Kd.R_keep (IsS86.apart (show IsS86 w _ gb504 l0 x505001_20 x505002_20 from by repeat (first | (with_reducible first | exact HI504.out | apply IsS86.alloc | apply IsS86.drewN | apply IsS86.drew | apply IsS86.set_1 | apply IsS86.set_2 | refine IsS86.far ?_ NB504_503.out _) | exact HI504.out)) (by exact HO_5.out) (by decide)) hk (fun _ h => h.2)) (fun _ h => h.1)); have n1_ := Aside0.mk (KeepBut.blk hk (g' := gb503) (o := .cells #[.int .i64 0, .int .i64 0, .int .i64 0, .int .i64 0, .int .i64 0, .bool false] 25 (0, 0)) BK503.out NB503_504.out (by simp)); have n2_ := Aside0.mk (hb); have n3_ := Aside0.mk (hi); clear HO_5; clear BK503; clear HB; clear HI504; have HO_5 := n0_; have BK503 := n1_; have HB := n2_; have HI504 := n3_; clear n0_ n1_ n2_ n3_; (try clear hb); (try clear hb2); (try clear hk); (try clear hi)) | ((with_reducible refine gate_callee (f := 68) rfl ?_); refine goesL_ (some 38) rfl rfl Try.func68 (by kernel_rfl) rfl #[.pointer (some ⟨gb504, 0, none⟩)] rfl (by (try simp only [List.map_toArray, List.map_cons, List.map_nil]); first | done | rfl | (simp only [List.length_drop, List.length_take]; rfl)) ?_; (with_reducible refine (spec_l1Cur_anyShape.calls kj20 gb504 l0 t532 t533 t534 t535 t536 t537 t538 t539 t540 t541 w _ ?side1 ?side2 A28.out).mono ?_); (case side1 => repeat (first | (with_reducible first | exact HI504.out | apply IsS86.alloc | apply IsS86.drewN | apply IsS86.drew | apply IsS86.set_1 | apply IsS86.set_2 | refine IsS86.far ?_ NB504_503.out _) | exact HI504.out)); (case side2 => repeat (first | (with_reducible first | exact HB.out | apply below_alloc | apply pw_below_drewN | apply below_drew1 | refine below_set ?_ (IsS86.ge HI504.out) | refine below_set ?_ GE503.out) | exact HB.out)); rintro e wx1 ⟨rfl, hi, hb, hk⟩; refine ⟨_, rfl, ?_⟩; have n0_ := Aside0.mk (Kd.R_mono (Kd.R_keep (IsS86.apart (show IsS86 w _ gb504 l0 t532 t533 from by repeat (first | (with_reducible first | exact HI504.out | apply IsS86.alloc | apply IsS86.drewN | apply IsS86.drew | apply IsS86.set_1 | apply IsS86.set_2 | refine IsS86.far ?_ NB504_503.out _) | exact HI504.out)) (by exact HO_5.out) (by decide)) hk (fun _ h => h.2)) (fun _ h => h.1)); have n1_ := Aside0.mk (KeepBut.blk hk (g' := gb503) (o := .cells #[.int .i64 0, .int .i64 0, .int .i64 0, .int .i64 0, .int .i64 0, .bool false] 25 (0, 0)) BK503.out NB503_504.out (by simp)); have n2_ := Aside0.mk (hb); have n3_ := Aside0.mk (hi); clear HO_5; clear BK503; clear HB; clear HI504; have HO_5 := n0_; have BK503 := n1_; have HB := n2_; have HI504 := n3_; clear n0_ n1_ n2_ n3_; (try clear hb); (try clear hb2); (try clear hk); (try clear hi); have px1 : 0 ≤ (t531 : Int) := of_decide_eq_true (by first | (with_reducible assumption) | assumption); have qx1 : (t531 : Int) < ((x5_2.length : Int) : Int) := of_decide_eq_true (by first | (with_reducible assumption) | assumption); obtain ⟨gox1, cox1, eox1, gbx0, glx1, clx1, HGx1⟩ := Kd.R_form HO_5.out (by omega); (first | cases eox1 | (injection eox1 with ea_ en_ ec_; (first | subst ea_ | (injection ea_ with ea_; subst ea_)); subst ec_; clear en_)); have GBx1 := Aside0.mk gbx0; have GGx1 := Aside0.mk HGx1; clear gbx0 glx1 HGx1; obtain ⟨cex1, hclx1, hMx1, hccx1, hfrx1⟩ := Kd.R_elem HO_5.out z25 (t531 : Int) px1 qx1; obtain rfl := k25_openM hMx1; have hxx1_0 : wx1.cell? ⟨gox1, (t531 : Int).toNat * 6, none⟩ = some (.int .i64 ((rd_T25 x5_2 t531).f0)) := hccx1 0 _ rfl; have hxx1_1 : wx1.cell? ⟨gox1, (t531 : Int).toNat * 6 + 1, none⟩ = some (.int .i64 ((rd_T25 x5_2 t531).f1)) := hccx1 1 _ rfl; have hxx1_2 : wx1.cell? ⟨gox1, (t531 : Int).toNat * 6 + 2, none⟩ = some (.int .i64 ((rd_T25 x5_2 t531).f2)) := hccx1 2 _ rfl; have hxx1_3 : wx1.cell? ⟨gox1, (t531 : Int).toNat * 6 + 3, none⟩ = some (.int .i64 ((rd_T25 x5_2 t531).f3)) := hccx1 3 _ rfl; have hxx1_4 : wx1.cell? ⟨gox1, (t531 : Int).toNat * 6 + 4, none⟩ = some (.int .i64 ((rd_T25 x5_2 t531).f4)) := hccx1 4 _ rfl; have hxx1_5 : wx1.cell? ⟨gox1, (t531 : Int).toNat * 6 + 5, none⟩ = some (.bool ((rd_T25 x5_2 t531).f5)) := hccx1 5 _ rfl; have hfx1_0 : wx1.frozen? ⟨gox1, (t531 : Int).toNat * 6, none⟩ = false := hfrx1 0; have hfx1_1 : wx1.frozen? ⟨gox1, (t531 : Int).toNat * 6 + 1, none⟩ = false := hfrx1 1; have hfx1_2 : wx1.frozen? ⟨gox1, (t531 : Int).toNat * 6 + 2, none⟩ = false := hfrx1 2; have hfx1_3 : wx1.frozen? ⟨gox1, (t531 : Int).toNat * 6 + 3, none⟩ = false := hfrx1 3; have hfx1_4 : wx1.frozen? ⟨gox1, (t531 : Int).toNat * 6 + 4, none⟩ = false := hfrx1 4; have hfx1_5 : wx1.frozen? ⟨gox1, (t531 : Int).toNat * 6 + 5, none⟩ = false := hfrx1 5; clear hclx1 hccx1 hfrx1 hMx1; replace px1 := eq_true px1; replace qx1 := eq_true qx1; have HXx2 := Aside0.mk (show Kd.R k25 25 wx1 w.heap.size (fun k_ => k_ ≠ gb503) (.slice (some ⟨gox1, 0, none⟩) x5_2.length co22) x5_2 from (by exact HO_5.out)); obtain ⟨cex2, hclx2, hMx2, hccx2, hfrx2⟩ := Kd.R_elem HXx2.out z25 (t531 : Int) (of_decide_eq_true (by first | (with_reducible assumption) | assumption)) (by have h_ : (t531 : Int) < ((x5_2.length : Int) : Int) := of_decide_eq_true (by first | (with_reducible assumption) | assumption); first | exact h_ | (have e_ := (Kd.R_reads' HO_5.out).1; omega) | simpa using h_); obtain rfl := k25_openM hMx2; have HPx2 := Kd.R_seg HXx2.out (t531 : Int) (of_decide_eq_true (by first | (with_reducible assumption) | assumption)) (by have h_ : (t531 : Int) < ((x5_2.length : Int) : Int) := of_decide_eq_true (by first | (with_reducible assumption) | assumption); first | exact h_ | (have e_ := (Kd.R_reads' HO_5.out).1; omega) | simpa using h_) (seg := [.int .i64 t534, .int .i64 t535, .int .i64 t536, .int .i64 t537, .int .i64 t538, .bool t539]) (j := 0) hclx2 hccx2 (show 6 ≤ 6 from by decide) (x' := (⟨t534, t535, t536, t537, t538, t539⟩ : S25)) (k25_mkM _ _ _ (⟨t534, t535, t536, t537, t538, t539⟩ : S25) ) (fun _ hk => hk); have hxx2_0 := hccx2 0 _ rfl; (try simp only [show (k25).sz = 6 from rfl, Nat.mul_one, Nat.add_zero] at hxx2_0); have hfx2_0 := hfrx2 0; (try simp only [show (k25).sz = 6 from rfl, Nat.mul_one, Nat.add_zero] at hfx2_0); have hxx2_1 := hccx2 1 _ rfl; (try simp only [show (k25).sz = 6 from rfl, Nat.mul_one, Nat.add_zero] at hxx2_1); have hfx2_1 := hfrx2 1; (try simp only [show (k25).sz = 6 from rfl, Nat.mul_one, Nat.add_zero] at hfx2_1); have hxx2_2 := hccx2 2 _ rfl; (try simp only [show (k25).sz = 6 from rfl, Nat.mul_one, Nat.add_zero] at hxx2_2); have hfx2_2 := hfrx2 2; (try simp only [show (k25).sz = 6 from rfl, Nat.mul_one, Nat.add_zero] at hfx2_2); have hxx2_3 := hccx2 3 _ rfl; (try simp only [show (k25).sz = 6 from rfl, Nat.mul_one, Nat.add_zero] at hxx2_3); have hfx2_3 := hfrx2 3; (try simp only [show (k25).sz = 6 from rfl, Nat.mul_one, Nat.add_zero] at hfx2_3); have hxx2_4 := hccx2 4 _ rfl; (try simp only [show (k25).sz = 6 from rfl, Nat.mul_one, Nat.add_zero] at hxx2_4); have hfx2_4 := hfrx2 4; (try simp only [show (k25).sz = 6 from rfl, Nat.mul_one, Nat.add_zero] at hfx2_4); have hxx2_5 := hccx2 5 _ rfl; (try simp only [show (k25).sz = 6 from rfl, Nat.mul_one, Nat.add_zero] at hxx2_5); have hfx2_5 := hfrx2 5; (try simp only [show (k25).sz = 6 from rfl, Nat.mul_one, Nat.add_zero] at hfx2_5); clear hclx2 hccx2 hfrx2 hMx2) | ((with_reducible refine gate_store (t := 25) (p := 39) rfl ?_); refine store_event (t := 25) (p := 39) (v := ?vo_w36) (w1 := ((((((wx1.setCell ⟨gox1, (t531 : Int).toNat * 6, none⟩ (.int .i64 t534)).setCell ⟨gox1, (t531 : Int).toNat * 6 + 1, none⟩ (.int .i64 t535)).setCell ⟨gox1, (t531 : Int).toNat * 6 + 2, none⟩ (.int .i64 t536)).setCell ⟨gox1, (t531 : Int).toNat * 6 + 3, none⟩ (.int .i64 t537)).setCell ⟨gox1, (t531 : Int).toNat * 6 + 4, none⟩ (.int .i64 t538)).setCell ⟨gox1, (t531 : Int).toNat * 6 + 5, none⟩ (.bool t539))) ?hg ?ho ?hn ?hr ?_; (case ho => rfl); (case hg => rfl); (case hn => rfl); (case hr => first | (go_simp; done) | (go_simp; rfl)); intro wx2 hw; have hg : wx1.grownBy wx2 (some gox1) := (by rw [hw]; exact HPx2.2); have hp_ : Kd.R k25 25 wx2 w.heap.size (fun k_ => k_ ≠ gb503) (.slice (some ⟨gox1, 0, none⟩) x5_2.length co22) y542 := (by rw [hw, Nyx0.out]; exact HPx2.1); clear HPx2; have n0_ := Aside0.mk (hp_); have n1_ := Aside0.mk (blk_grown (g := gb503) (o := .cells #[.int .i64 0, .int .i64 0, .int .i64 0, .int .i64 0, .int .i64 0, .bool false] 25 (0, 0)) BK503.out hg (Kd.R_away HO_5.out (fun _ hk => hk))); have n2_ := Aside0.mk (IsS86.grown (by repeat (first | (with_reducible first | exact HI504.out | apply IsS86.alloc | apply IsS86.drewN | apply IsS86.drew | apply IsS86.set_1 | apply IsS86.set_2 | refine IsS86.far ?_ NB504_503.out _) | exact HI504.out)) hg (IsS86.own_ne HI504.out HO_5.out (by decide))); have n3_ := Aside0.mk ((by rw [hw]; exact below_set (below_set (below_set (below_set (below_set (below_set (HB.out) GBx1.out) GBx1.out) GBx1.out) GBx1.out) GBx1.out) GBx1.out : Below w.heap.size w wx2)); clear HO_5; clear BK503; clear HI504; clear HB; have HO_5 := n0_; have BK503 := n1_; have HI504 := n2_; have HB := n3_; clear n0_ n1_ n2_ n3_; clear hg hw hp_) | ((with_reducible refine gate_callee (f := 68) rfl ?_); refine goesL_ (some 42) rfl rfl Try.func68 (by kernel_rfl) rfl #[.pointer (some ⟨gb504, 0, none⟩)] rfl (by (try simp only [List.map_toArray, List.map_cons, List.map_nil]); first | done | rfl | (simp only [List.length_drop, List.length_take]; rfl)) ?_; (with_reducible refine (spec_l1Cur_anyShape.calls kj20 gb504 l0 t540 t541 t543 t544 t545 t546 t547 t548 t549 t550 w _ ?side1 ?side2 A32.out).mono ?_); (case side1 => repeat (first | (with_reducible first | exact HI504.out | apply IsS86.alloc | apply IsS86.drewN | apply IsS86.drew | apply IsS86.set_1 | apply IsS86.set_2 | refine IsS86.far ?_ NB504_503.out _) | exact HI504.out)); (case side2 => repeat (first | (with_reducible first | exact HB.out | apply below_alloc | apply pw_below_drewN | apply below_drew1 | refine below_set ?_ (IsS86.ge HI504.out) | refine below_set ?_ GE503.out) | exact HB.out)); rintro e wx3 ⟨rfl, hi, hb, hk⟩; refine ⟨_, rfl, ?_⟩; have n0_ := Aside0.mk (Kd.R_mono (Kd.R_keep (IsS86.apart (show IsS86 w _ gb504 l0 t540 t541 from by repeat (first | (with_reducible first | exact HI504.out | apply IsS86.alloc | apply IsS86.drewN | apply IsS86.drew | apply IsS86.set_1 | apply IsS86.set_2 | refine IsS86.far ?_ NB504_503.out _) | exact HI504.out)) (by exact HO_5.out) (by decide)) hk (fun _ h => h.2)) (fun _ h => h.1)); have n1_ := Aside0.mk (KeepBut.blk hk (g' := gb503) (o := .cells #[.int .i64 0, .int .i64 0, .int .i64 0, .int .i64 0, .int .i64 0, .bool false] 25 (0, 0)) BK503.out NB503_504.out (by simp)); have n2_ := Aside0.mk (hb); have n3_ := Aside0.mk (hi); clear HO_5; clear BK503; clear HB; clear HI504; have HO_5 := n0_; have BK503 := n1_; have HB := n2_; have HI504 := n3_; clear n0_ n1_ n2_ n3_; (try clear hb); (try clear hb2); (try clear hk); (try clear hi); have hnbx3 := NB503_504.out; have hncx3 := NB504_503.out; have hczx4_0 : wx3.cell? ⟨gb503, 0, none⟩ = some (.int .i64 0) := (blk_cell BK503.out 0).trans rfl; have hczx4_1 : wx3.cell? ⟨gb503, 1, none⟩ = some (.int .i64 0) := (blk_cell BK503.out 1).trans rfl; have hczx4_2 : wx3.cell? ⟨gb503, 2, none⟩ = some (.int .i64 0) := (blk_cell BK503.out 2).trans rfl; have hczx4_3 : wx3.cell? ⟨gb503, 3, none⟩ = some (.int .i64 0) := (blk_cell BK503.out 3).trans rfl; have hczx4_4 : wx3.cell? ⟨gb503, 4, none⟩ = some (.int .i64 0) := (blk_cell BK503.out 4).trans rfl; have hczx4_5 : wx3.cell? ⟨gb503, 5, none⟩ = some (.bool false) := (blk_cell BK503.out 5).trans rfl; have hfzx4_0 := blk_frozen BK503.out 0; have hfzx4_1 := blk_frozen BK503.out 1; have hfzx4_2 := blk_frozen BK503.out 2; have hfzx4_3 := blk_frozen BK503.out 3; have hfzx4_4 := blk_frozen BK503.out 4; have hfzx4_5 := blk_frozen BK503.out 5))
         · refine bodyPost_ret (results_tc rfl _ _ gb503 25 #[.int .i64 t551, .int .i64 t552, .int .i64 t553, .int .i64 t554, .int .i64 t555, .bool t556] (0, 0) _ rfl (by refine blk_put (cs := #[.int .i64 t551, .int .i64 t552, .int .i64 t553, .int .i64 t554, .int .i64 t555, .bool false]) ?_ 5 _ rfl; refine blk_put (cs := #[.int .i64 t551, .int .i64 t552, .int .i64 t553, .int .i64 t554, .int .i64 0, .bool false]) ?_ 4 _ rfl; refine blk_put (cs := #[.int .i64 t551, .int .i64 t552, .int .i64 t553, .int .i64 0, .int .i64 0, .bool false]) ?_ 3 _ rfl; refine blk_put (cs := #[.int .i64 t551, .int .i64 t552, .int .i64 0, .int .i64 0, .int .i64 0, .bool false]) ?_ 2 _ rfl; refine blk_put (cs := #[.int .i64 t551, .int .i64 0, .int .i64 0, .int .i64 0, .int .i64 0, .bool false]) ?_ 1 _ rfl; refine blk_put (cs := #[.int .i64 0, .int .i64 0, .int .i64 0, .int .i64 0, .int .i64 0, .bool false]) ?_ 0 _ rfl; exact BK503.out) Try.underlying25 rfl (by kernel_rfl)) rfl ?_
           exact ⟨_, by first | rfl | (simp [errW_none, errW_some] <;> rfl) | (simp [*, errW_none, errW_some] <;> rfl), by exact Kd.R_mono (Kd.R_far (p := ⟨gb503, 5, none⟩) (Kd.R_far (p := ⟨gb503, 4, none⟩) (Kd.R_far (p := ⟨gb503, 3, none⟩) (Kd.R_far (p := ⟨gb503, 2, none⟩) (Kd.R_far (p := ⟨gb503, 1, none⟩) (Kd.R_far (p := ⟨gb503, 0, none⟩) (Kd.R_mono HO_5.out (fun k_ hk => (⟨hk, hk⟩ : _ ∧ k_ ≠ gb503))) (fun _ hk => hk.2) (.int .i64 t551)) (fun _ hk => hk.2) (.int .i64 t552)) (fun _ hk => hk.2) (.int .i64 t553)) (fun _ hk => hk.2) (.int .i64 t554)) (fun _ hk => hk.2) (.int .i64 t555)) (fun _ hk => hk.2) (.bool t556)) (fun _ hk => trivial), by repeat (first | (with_reducible first | exact HB.out | apply below_alloc | apply pw_below_drewN | apply below_drew1 | refine below_set ?_ (IsS86.ge HI504.out) | refine below_set ?_ GE503.out) | exact HB.out)⟩
         · refine bodyPost_ret (results_tc rfl _ _ gb503 25 #[.int .i64 t543, .int .i64 t544, .int .i64 t545, .int .i64 t546, .int .i64 t547, .bool t548] (0, 0) _ rfl (by refine blk_put (cs := #[.int .i64 t543, .int .i64 t544, .int .i64 t545, .int .i64 t546, .int .i64 t547, .bool false]) ?_ 5 _ rfl; refine blk_put (cs := #[.int .i64 t543, .int .i64 t544, .int .i64 t545, .int .i64 t546, .int .i64 0, .bool false]) ?_ 4 _ rfl; refine blk_put (cs := #[.int .i64 t543, .int .i64 t544, .int .i64 t545, .int .i64 0, .int .i64 0, .bool false]) ?_ 3 _ rfl; refine blk_put (cs := #[.int .i64 t543, .int .i64 t544, .int .i64 0, .int .i64 0, .int .i64 0, .bool false]) ?_ 2 _ rfl; refine blk_put (cs := #[.int .i64 t543, .int .i64 0, .int .i64 0, .int .i64 0, .int .i64 0, .bool false]) ?_ 1 _ rfl; refine blk_put (cs := #[.int .i64 0, .int .i64 0, .int .i64 0, .int .i64 0, .int .i64 0, .bool false]) ?_ 0 _ rfl; exact BK503.out) Try.underlying25 rfl (by kernel_rfl)) rfl ?_
           exact ⟨_, by first | rfl | (simp [errW_none, errW_some] <;> rfl) | (simp [*, errW_none, errW_some] <;> rfl), by exact Kd.R_mono (Kd.R_far (p := ⟨gb503, 5, none⟩) (Kd.R_far (p := ⟨gb503, 4, none⟩) (Kd.R_far (p := ⟨gb503, 3, none⟩) (Kd.R_far (p := ⟨gb503, 2, none⟩) (Kd.R_far (p := ⟨gb503, 1, none⟩) (Kd.R_far (p := ⟨gb503, 0, none⟩) (Kd.R_mono HO_5.out (fun k_ hk => (⟨hk, hk⟩ : _ ∧ k_ ≠ gb503))) (fun _ hk => hk.2) (.int .i64 t543)) (fun _ hk => hk.2) (.int .i64 t544)) (fun _ hk => hk.2) (.int .i64 t545)) (fun _ hk => hk.2) (.int .i64 t546)) (fun _ hk => hk.2) (.int .i64 t547)) (fun _ hk => hk.2) (.bool t548)) (fun _ hk => trivial), by repeat (first | (with_reducible first | exact HB.out | apply below_alloc | apply pw_below_drewN | apply below_drew1 | refine below_set ?_ (IsS86.ge HI504.out) | refine below_set ?_ GE503.out) | exact HB.out)⟩

end Go.Proofs.Ytaecjbhenknfkaa.FD
