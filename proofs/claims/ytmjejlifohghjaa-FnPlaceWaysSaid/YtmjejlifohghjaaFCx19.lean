-- laid by pr.py (wip/tools) over the kit's printer; Lean checks it
import Derived.Test.YtmjejlifohghjaaFCx0
import Derived.Test.YtmjejlifohghjaaFCx16
import Derived.Test.YtmjejlifohghjaaFCx17
import Derived.Test.YtmjejlifohghjaaFCx18
namespace Go.Proofs.Ytmjejlifohghjaa.FC
open Go.RowKit Go.Proofs.YtmjejlifohghjaaW.PrintWords Go.Proofs.YtmjejlifohghjaaW.PrintLast Go.Proofs.YtmjejlifohghjaaW.PrintMore
attribute [local go_sem] max2_int min2_int max_two min_two max_three min_three max_four min_four   -- for this text's walks alone
set_option linter.unusedVariables false
set_option linter.unusedSimpArgs false

/-! ### spec_DrawCommonPlace: function 39 -/
mutual
def spec_DrawCommonPlace.j0 : Nat → List (S25) → Int → List Int → Int → Int → Option ((List (S25)))
  | 0, _, _, _, _, _ => none
  | k + 1, x4, x5, x308000, x308001, x308002 => spec_DrawCommonPlace.l0 k x4 x5 x308000 x308001 x308002
def spec_DrawCommonPlace.l0 : Nat → List (S25) → Int → List Int → Int → Int → Option ((List (S25)))
  | 0, _, _, _, _, _ => none
  | k + 1, x4, x5, x308000, x308001, x308002 => if (x4.length : Int) < x5 then (if (x4.length : Int) > 0 then ((spec_l1Cur_one.f x308000 x308001 x308002 2).bind fun bt317 => (spec_DrawCommonPlace.j2 k x4 x5 (x4.length : Int) bt317.1 x308000 bt317.2.1 bt317.2.2)) else (spec_DrawCommonPlace.j2 k x4 x5 (x4.length : Int) false x308000 x308001 x308002)) else (if x5 > 0 then ((spec_l1Cur_one.f x308000 x308001 x308002 20).bind fun bt335 => (spec_DrawCommonPlace.j3 k x4 x5 bt335.1 x308000 bt335.2.1 bt335.2.2)) else (spec_DrawCommonPlace.j3 k x4 x5 false x308000 x308001 x308002))
def spec_DrawCommonPlace.j2 : Nat → List (S25) → Int → Int → Bool → List Int → Int → Int → Option ((List (S25)))
  | 0, _, _, _, _, _, _, _ => none
  | k + 1, x4, x5, x6, x28, x308000, x308001, x308002 => if x28 = true then ((spec_l1Cur_pick.f x308000 x308001 x308002 x6).bind fun bt320 => (if 0 ≤ bt320.1 then (if bt320.1 < (x4.length : Int) then (if x4.length < 5864062014805 then (spec_DrawCommonPlace.l0 k (x4 ++ [(⟨(rd_T25 x4 bt320.1).f0, (rd_T25 x4 bt320.1).f1, (rd_T25 x4 bt320.1).f2⟩ : S25)]) x5 x308000 bt320.2.1 bt320.2.2) else (none)) else (none)) else (none))) else ((spec_l1Cur_place.f k x308000 x308001 x308002).bind fun bt327 => (if x4.length < 5864062014805 then (spec_DrawCommonPlace.l0 k (x4 ++ [(⟨bt327.1, bt327.2.1, bt327.2.2.1⟩ : S25)]) x5 x308000 bt327.2.2.2.1 bt327.2.2.2.2) else (none)))
def spec_DrawCommonPlace.j3 : Nat → List (S25) → Int → Bool → List Int → Int → Int → Option ((List (S25)))
  | 0, _, _, _, _, _, _ => none
  | k + 1, x4, x5, x48, x308000, x308001, x308002 => if x48 = true then ((spec_l1Cur_pick.f x308000 x308001 x308002 x5).bind fun bt338 => ((spec_l1Cur_anyPlace.f k x308000 bt338.2.1 bt338.2.2).bind fun bt341 => (if 0 ≤ bt338.1 then (if bt338.1 < (x4.length : Int) then (some (x4.set (bt338.1 : Int).toNat (⟨bt341.1, bt341.2.1, bt341.2.2.1⟩ : S25))) else (none)) else (none)))) else (some x4)
end
def spec_DrawCommonPlace.f (k : Nat) (l0 : List Int) : Option ((List (S25))) := (spec_l1Cur_pick.f l0 0 0 7).bind fun bt308 => ((spec_l1Cur_one.f l0 bt308.2.1 bt308.2.2 12).bind fun bt311 => (if bt311.1 = true then ((spec_l1Cur_pick.f l0 bt311.2.1 bt311.2.2 2).bind fun bt314 => (spec_DrawCommonPlace.j0 k ([] : List (S25)) (wrap64 (40 + bt314.1)) l0 bt314.2.1 bt314.2.2)) else (spec_DrawCommonPlace.j0 k ([] : List (S25)) bt308.1 l0 bt311.2.1 bt311.2.2)))
theorem spec_DrawCommonPlace.mono_l : ∀ k, (∀ y0 y1 y2 y3 y4, LeO (spec_DrawCommonPlace.j0 k y0 y1 y2 y3 y4) (spec_DrawCommonPlace.j0 (k + 1) y0 y1 y2 y3 y4)) ∧ (∀ y0 y1 y2 y3 y4, LeO (spec_DrawCommonPlace.l0 k y0 y1 y2 y3 y4) (spec_DrawCommonPlace.l0 (k + 1) y0 y1 y2 y3 y4)) ∧ (∀ y0 y1 y2 y3 y4 y5 y6, LeO (spec_DrawCommonPlace.j2 k y0 y1 y2 y3 y4 y5 y6) (spec_DrawCommonPlace.j2 (k + 1) y0 y1 y2 y3 y4 y5 y6)) ∧ (∀ y0 y1 y2 y3 y4 y5, LeO (spec_DrawCommonPlace.j3 k y0 y1 y2 y3 y4 y5) (spec_DrawCommonPlace.j3 (k + 1) y0 y1 y2 y3 y4 y5))
  | 0 => ⟨fun _ _ _ _ _ r h => by simp [spec_DrawCommonPlace.j0] at h, fun _ _ _ _ _ r h => by simp [spec_DrawCommonPlace.l0] at h, fun _ _ _ _ _ _ _ r h => by simp [spec_DrawCommonPlace.j2] at h, fun _ _ _ _ _ _ r h => by simp [spec_DrawCommonPlace.j3] at h⟩
  | k + 1 => by
    obtain ⟨ih0, ih1, ih2, ih3⟩ := spec_DrawCommonPlace.mono_l k
    refine ⟨?_, ?_, ?_, ?_⟩
    · intro y0 y1 y2 y3 y4
      unfold spec_DrawCommonPlace.j0
      repeat' first
      | (with_reducible exact ih0 _ _ _ _ _)
      | (with_reducible exact ih1 _ _ _ _ _)
      | (with_reducible exact ih2 _ _ _ _ _ _ _)
      | (with_reducible exact ih3 _ _ _ _ _ _)
      | (with_reducible exact spec_l1Cur_anyPlace.mono _ _ _ _)
      | (with_reducible exact spec_l1Cur_place.mono _ _ _ _)
      | (with_reducible exact LeO.refl _)
      | (with_reducible exact LeO.none _)
      | (with_reducible refine LeO.ite ?_ ?_)
      | (with_reducible refine LeO.bind ?_ (fun _ => ?_))
      | exact ih0 _ _ _ _ _
      | exact ih1 _ _ _ _ _
      | exact ih2 _ _ _ _ _ _ _
      | exact ih3 _ _ _ _ _ _
      | exact spec_l1Cur_anyPlace.mono _ _ _ _
      | exact spec_l1Cur_place.mono _ _ _ _
      | exact LeO.none _
      | refine LeO.ite ?_ ?_
      | refine LeO.bind ?_ (fun _ => ?_)
    · intro y0 y1 y2 y3 y4
      unfold spec_DrawCommonPlace.l0
      repeat' first
      | (with_reducible exact ih0 _ _ _ _ _)
      | (with_reducible exact ih1 _ _ _ _ _)
      | (with_reducible exact ih2 _ _ _ _ _ _ _)
      | (with_reducible exact ih3 _ _ _ _ _ _)
      | (with_reducible exact spec_l1Cur_anyPlace.mono _ _ _ _)
      | (with_reducible exact spec_l1Cur_place.mono _ _ _ _)
      | (with_reducible exact LeO.refl _)
      | (with_reducible exact LeO.none _)
      | (with_reducible refine LeO.ite ?_ ?_)
      | (with_reducible refine LeO.bind ?_ (fun _ => ?_))
      | exact ih0 _ _ _ _ _
      | exact ih1 _ _ _ _ _
      | exact ih2 _ _ _ _ _ _ _
      | exact ih3 _ _ _ _ _ _
      | exact spec_l1Cur_anyPlace.mono _ _ _ _
      | exact spec_l1Cur_place.mono _ _ _ _
      | exact LeO.none _
      | refine LeO.ite ?_ ?_
      | refine LeO.bind ?_ (fun _ => ?_)
    · intro y0 y1 y2 y3 y4 y5 y6
      unfold spec_DrawCommonPlace.j2
      repeat' first
      | (with_reducible exact ih0 _ _ _ _ _)
      | (with_reducible exact ih1 _ _ _ _ _)
      | (with_reducible exact ih2 _ _ _ _ _ _ _)
      | (with_reducible exact ih3 _ _ _ _ _ _)
      | (with_reducible exact spec_l1Cur_anyPlace.mono _ _ _ _)
      | (with_reducible exact spec_l1Cur_place.mono _ _ _ _)
      | (with_reducible exact LeO.refl _)
      | (with_reducible exact LeO.none _)
      | (with_reducible refine LeO.ite ?_ ?_)
      | (with_reducible refine LeO.bind ?_ (fun _ => ?_))
      | exact ih0 _ _ _ _ _
      | exact ih1 _ _ _ _ _
      | exact ih2 _ _ _ _ _ _ _
      | exact ih3 _ _ _ _ _ _
      | exact spec_l1Cur_anyPlace.mono _ _ _ _
      | exact spec_l1Cur_place.mono _ _ _ _
      | exact LeO.none _
      | refine LeO.ite ?_ ?_
      | refine LeO.bind ?_ (fun _ => ?_)
    · intro y0 y1 y2 y3 y4 y5
      unfold spec_DrawCommonPlace.j3
      repeat' first
      | (with_reducible exact ih0 _ _ _ _ _)
      | (with_reducible exact ih1 _ _ _ _ _)
      | (with_reducible exact ih2 _ _ _ _ _ _ _)
      | (with_reducible exact ih3 _ _ _ _ _ _)
      | (with_reducible exact spec_l1Cur_anyPlace.mono _ _ _ _)
      | (with_reducible exact spec_l1Cur_place.mono _ _ _ _)
      | (with_reducible exact LeO.refl _)
      | (with_reducible exact LeO.none _)
      | (with_reducible refine LeO.ite ?_ ?_)
      | (with_reducible refine LeO.bind ?_ (fun _ => ?_))
      | exact ih0 _ _ _ _ _
      | exact ih1 _ _ _ _ _
      | exact ih2 _ _ _ _ _ _ _
      | exact ih3 _ _ _ _ _ _
      | exact spec_l1Cur_anyPlace.mono _ _ _ _
      | exact spec_l1Cur_place.mono _ _ _ _
      | exact LeO.none _
      | refine LeO.ite ?_ ?_
      | refine LeO.bind ?_ (fun _ => ?_)
theorem spec_DrawCommonPlace.mono : ∀ a0 k, LeO (spec_DrawCommonPlace.f k a0) (spec_DrawCommonPlace.f (k + 1) a0) := by
  intro a0 k
  obtain ⟨ih0, ih1, ih2, ih3⟩ := spec_DrawCommonPlace.mono_l k
  unfold spec_DrawCommonPlace.f
  repeat' first
    | (with_reducible exact ih0 _ _ _ _ _)
    | (with_reducible exact ih1 _ _ _ _ _)
    | (with_reducible exact ih2 _ _ _ _ _ _ _)
    | (with_reducible exact ih3 _ _ _ _ _ _)
    | (with_reducible exact spec_l1Cur_anyPlace.mono _ _ _ _)
    | (with_reducible exact spec_l1Cur_place.mono _ _ _ _)
    | (with_reducible exact LeO.refl _)
    | (with_reducible exact LeO.none _)
    | (with_reducible refine LeO.ite ?_ ?_)
    | (with_reducible refine LeO.bind ?_ (fun _ => ?_))
    | exact ih0 _ _ _ _ _
    | exact ih1 _ _ _ _ _
    | exact ih2 _ _ _ _ _ _ _
    | exact ih3 _ _ _ _ _ _
    | exact spec_l1Cur_anyPlace.mono _ _ _ _
    | exact spec_l1Cur_place.mono _ _ _ _
    | exact LeO.none _
    | refine LeO.ite ?_ ?_
    | refine LeO.bind ?_ (fun _ => ?_)
set_option maxHeartbeats 8000000 in
set_option maxRecDepth 100000 in
theorem spec_DrawCommonPlace.calls (k : Nat) (A0 : Option Addr) (c0 : Nat) (l0 : List Int) (r : List (S25)) (w : World) (hr0 : Kd.C (Kd.int .u8) w A0 l0.length l0) (hc0 : l0.length ≤ c0) (h : spec_DrawCommonPlace.f k l0 = some r) :
    Calls Try.prog 39 #[.slice A0 l0.length c0] w fun e w' => ∃ v0_ : Value, e = .returned (v0_) ∧ Kd.R k25 25 w' w.heap.size (fun _ => True) v0_ r ∧ Below w.heap.size w w' := by
  have hu80 := Try.underlying80
  have hu25 := Try.underlying25
  have HR0 := Aside0.mk hr0
  have HC0 := Aside0.mk hc0
  clear hr0 hc0
  have HB := Aside0.mk (Below.refl w.heap.size w)
  have H : ((spec_l1Cur_pick.f l0 0 0 7).bind fun bt308 => ((spec_l1Cur_one.f l0 bt308.2.1 bt308.2.2 12).bind fun bt311 => (if bt311.1 = true then ((spec_l1Cur_pick.f l0 bt311.2.1 bt311.2.2 2).bind fun bt314 => (spec_DrawCommonPlace.j0 k ([] : List (S25)) (wrap64 (40 + bt314.1)) l0 bt314.2.1 bt314.2.2)) else (spec_DrawCommonPlace.j0 k ([] : List (S25)) bt308.1 l0 bt311.2.1 bt311.2.2)))) = some r := h
  clear h
  replace H := Option.bind_eq_some_iff.mp H
  obtain ⟨⟨t308, t309, t310⟩, A20, H⟩ := H
  replace H : ((spec_l1Cur_one.f l0 t309 t310 12).bind fun bt311 => (if bt311.1 = true then ((spec_l1Cur_pick.f l0 bt311.2.1 bt311.2.2 2).bind fun bt314 => (spec_DrawCommonPlace.j0 k ([] : List (S25)) (wrap64 (40 + bt314.1)) l0 bt314.2.1 bt314.2.2)) else (spec_DrawCommonPlace.j0 k ([] : List (S25)) t308 l0 bt311.2.1 bt311.2.2))) = some r := H
  have A2 := Aside0.mk A20
  clear A20
  replace H := Option.bind_eq_some_iff.mp H
  obtain ⟨⟨t311, t312, t313⟩, A30, H⟩ := H
  replace H : (if t311 = true then ((spec_l1Cur_pick.f l0 t312 t313 2).bind fun bt314 => (spec_DrawCommonPlace.j0 k ([] : List (S25)) (wrap64 (40 + bt314.1)) l0 bt314.2.1 bt314.2.2)) else (spec_DrawCommonPlace.j0 k ([] : List (S25)) t308 l0 t312 t313)) = some r := H
  have A3 := Aside0.mk A30
  clear A30
  have HC4 := Aside0.mk H
  clear H
  go_enter Try.func39, Try.ntmps39
  go_upto_if 13 with (first | ((with_reducible refine gate_dst (N := 9) rfl ?_); refine box_event ?hg (N := 9) ?hd (cs := #[.slice A0 l0.length c0, .int .i64 0, .int .u64 0]) (t := 80) ?hr ?_; (case hd => rfl); (case hg => rfl); (case hr => first | (go_simp; done) | (go_simp; rfl)); intro gb307 hg w5 hbox hb; have n0_ := Aside0.mk (below_step (by repeat (first | (with_reducible first | exact HB.out | apply below_alloc | apply pw_below_drewN | apply below_drew1) | exact HB.out)) hb); have n1_ := Aside0.mk ((⟨_, _, hbox, (by rw [hg]; exact (below_size (by repeat (first | (with_reducible first | exact HB.out | apply below_alloc | apply pw_below_drewN | apply below_drew1) | exact HB.out))) : w.heap.size ≤ gb307), HR0.out⟩ : IsS80 w w5 gb307 l0 0 0)); have n2_ := Aside0.mk ((by rw [hg]; exact (below_size (by repeat (first | (with_reducible first | exact HB.out | apply below_alloc | apply pw_below_drewN | apply below_drew1) | exact HB.out))) : w.heap.size ≤ gb307)); have n3_ := Aside0.mk ((by rw [hg]; exact (below_size (by repeat (first | (with_reducible first | exact HB.out | apply below_alloc | apply pw_below_drewN | apply below_drew1) | exact HB.out))) : w.heap.size ≤ gb307)); clear HB; have HB := n0_; have HI307 := n1_; have GW307 := n2_; have GE307 := n3_; clear n0_ n1_ n2_ n3_; clear hb hbox hg) | ((with_reducible refine gate_callee (f := 62) rfl ?_); refine goesL_ (some 11) rfl rfl Try.func62 (by kernel_rfl) rfl #[.pointer (some ⟨gb307, 0, none⟩), .int .i64 7] rfl (by (try simp only [List.map_toArray, List.map_cons, List.map_nil]); first | done | rfl | (simp only [List.length_drop, List.length_take]; rfl)) ?_; (with_reducible refine (spec_l1Cur_pick.calls gb307 l0 0 0 7 t308 t309 t310 w _ ?side1 ?side2 A2.out).mono ?_); (case side1 => repeat (first | (with_reducible first | exact HI307.out | apply IsS80.alloc | apply IsS80.drewN | apply IsS80.drew | apply IsS80.set_1 | apply IsS80.set_2) | exact HI307.out)); (case side2 => repeat (first | (with_reducible first | exact HB.out | apply below_alloc | apply pw_below_drewN | apply below_drew1 | refine below_set ?_ (IsS80.ge HI307.out)) | exact HB.out)); rintro e w6 ⟨rfl, hi, hb, hk⟩; refine ⟨_, rfl, ?_⟩; have n0_ := Aside0.mk (hb); have n1_ := Aside0.mk (hi); clear HB; clear HI307; have HB := n0_; have HI307 := n1_; clear n0_ n1_; (try clear hb); (try clear hb2); (try clear hk); (try clear hi)) | ((with_reducible refine gate_callee (f := 63) rfl ?_); refine goesL_ (some 13) rfl rfl Try.func63 (by kernel_rfl) rfl #[.pointer (some ⟨gb307, 0, none⟩), .int .i64 12] rfl (by (try simp only [List.map_toArray, List.map_cons, List.map_nil]); first | done | rfl | (simp only [List.length_drop, List.length_take]; rfl)) ?_; (with_reducible refine (spec_l1Cur_one.calls gb307 l0 t309 t310 12 t311 t312 t313 w _ ?side1 ?side2 A3.out).mono ?_); (case side1 => repeat (first | (with_reducible first | exact HI307.out | apply IsS80.alloc | apply IsS80.drewN | apply IsS80.drew | apply IsS80.set_1 | apply IsS80.set_2) | exact HI307.out)); (case side2 => repeat (first | (with_reducible first | exact HB.out | apply below_alloc | apply pw_below_drewN | apply below_drew1 | refine below_set ?_ (IsS80.ge HI307.out)) | exact HB.out)); rintro e w7 ⟨rfl, hi, hb, hk⟩; refine ⟨_, rfl, ?_⟩; have n0_ := Aside0.mk (hb); have n1_ := Aside0.mk (hi); clear HB; clear HI307; have HB := n0_; have HI307 := n1_; clear n0_ n1_; (try clear hb); (try clear hb2); (try clear hk); (try clear hi)))
  (try simp only [Act.put, List.setIfInBounds_toArray, List.set_cons_zero, List.set_cons_succ])
  go_cut [5] (fun v5 wc => ∃ (kq : Nat) (x5_3 : Int) (x308001_3 : Int) (x308002_3 : Int), v5 = .int .i64 x5_3 ∧ Aside0 (spec_DrawCommonPlace.j0 kq ([] : List (S25)) x5_3 l0 x308001_3 x308002_3 = some r) ∧ Aside0 (kq ≤ k) ∧ Aside0 (Kd.R k25 25 wc w.heap.size (fun _ => True) (.slice none 0 0) ([] : List (S25))) ∧ Aside0 (IsS80 w wc gb307 l0 x308001_3 x308002_3) ∧ Aside0 (Below w.heap.size w wc))
  case first =>
   have H := HC4.out
   clear HC4
   by_cases c8 : t311 = true
   ·
    subst c8
    have H1 : ((spec_l1Cur_pick.f l0 t312 t313 2).bind fun bt314 => (spec_DrawCommonPlace.j0 k ([] : List (S25)) (wrap64 (40 + bt314.1)) l0 bt314.2.1 bt314.2.2)) = some r := by rw [if_pos rfl] at H; exact H
    clear H
    have H := H1
    clear H1
    replace H := Option.bind_eq_some_iff.mp H
    obtain ⟨⟨t314, t315, t316⟩, A90, H⟩ := H
    replace H : (spec_DrawCommonPlace.j0 k ([] : List (S25)) (wrap64 (40 + t314)) l0 t315 t316) = some r := H
    have A9 := Aside0.mk A90
    clear A90
    have H' := Aside0.mk H
    clear H
    go_wp2_with (first | ((with_reducible refine gate_callee (f := 62) rfl ?_); refine goesL_ (some 15) rfl rfl Try.func62 (by kernel_rfl) rfl #[.pointer (some ⟨gb307, 0, none⟩), .int .i64 2] rfl (by (try simp only [List.map_toArray, List.map_cons, List.map_nil]); first | done | rfl | (simp only [List.length_drop, List.length_take]; rfl)) ?_; (with_reducible refine (spec_l1Cur_pick.calls gb307 l0 t312 t313 2 t314 t315 t316 w _ ?side1 ?side2 A9.out).mono ?_); (case side1 => repeat (first | (with_reducible first | exact HI307.out | apply IsS80.alloc | apply IsS80.drewN | apply IsS80.drew | apply IsS80.set_1 | apply IsS80.set_2) | exact HI307.out)); (case side2 => repeat (first | (with_reducible first | exact HB.out | apply below_alloc | apply pw_below_drewN | apply below_drew1 | refine below_set ?_ (IsS80.ge HI307.out)) | exact HB.out)); rintro e w10 ⟨rfl, hi, hb, hk⟩; refine ⟨_, rfl, ?_⟩; have n0_ := Aside0.mk (hb); have n1_ := Aside0.mk (hi); clear HB; clear HI307; have HB := n0_; have HI307 := n1_; clear n0_ n1_; (try clear hb); (try clear hb2); (try clear hk); (try clear hi)))
    go_meet
    case rel => exact ⟨_, (wrap64 (40 + t314)), (t315), (t316), (by first | rfl | (simp; done) | (simp [*]; done)), H', ⟨by first | omega | exact Nat.le_refl _⟩, ⟨by first | exact Kd.R_nil _ _ _ _ _ | exact Kd.N_nil _ _ _ _ _ | exact Kd.V_nil _ _ _ _ _ | exact Kd.Q_nil _ _ _ _ _ | exact Kd.S_nil _ _ _ _ _⟩, ⟨by repeat (first | (with_reducible first | exact HI307.out | apply IsS80.alloc | apply IsS80.drewN | apply IsS80.drew | apply IsS80.set_1 | apply IsS80.set_2) | exact HI307.out)⟩, ⟨by repeat (first | (with_reducible first | exact HB.out | apply below_alloc | apply pw_below_drewN | apply below_drew1 | refine below_set ?_ (IsS80.ge HI307.out)) | exact HB.out)⟩⟩
   ·
    replace c8 := Bool.eq_false_iff.mpr c8
    subst c8
    have H1 : (spec_DrawCommonPlace.j0 k ([] : List (S25)) t308 l0 t312 t313) = some r := by rw [if_neg (show ¬ (false = true) by decide)] at H; exact H
    clear H
    have H := H1
    clear H1
    have H' := Aside0.mk H
    clear H
    go_wp2
    go_meet
    case rel => exact ⟨_, (t308), (t312), (t313), (by first | rfl | (simp; done) | (simp [*]; done)), H', ⟨by first | omega | exact Nat.le_refl _⟩, ⟨by first | exact Kd.R_nil _ _ _ _ _ | exact Kd.N_nil _ _ _ _ _ | exact Kd.V_nil _ _ _ _ _ | exact Kd.Q_nil _ _ _ _ _ | exact Kd.S_nil _ _ _ _ _⟩, ⟨by repeat (first | (with_reducible first | exact HI307.out | apply IsS80.alloc | apply IsS80.drewN | apply IsS80.drew | apply IsS80.set_1 | apply IsS80.set_2) | exact HI307.out)⟩, ⟨by repeat (first | (with_reducible first | exact HB.out | apply below_alloc | apply pw_below_drewN | apply below_drew1 | refine below_set ?_ (IsS80.ge HI307.out)) | exact HB.out)⟩⟩
  case rest =>
   clear HC4
   obtain ⟨kq, x5_3, x308001_3, x308002_3, rfl, HA, HJ3, HO_4, HI307, HB⟩ := hcut
   cases kq with
   | zero => exact absurd HA.out (by simp [spec_DrawCommonPlace.j0])
   | succ kj3 =>
    have H := HA.out
    clear HA
    simp only [spec_DrawCommonPlace.j0] at H
    have H' := Aside0.mk H
    clear H
    go_wp2
    go_loopg [4] kj3 (fun kq v4 w' => ∃ (x4_2 : List (S25)) (x308001_2 : Int) (x308002_2 : Int), Aside0 (spec_DrawCommonPlace.l0 kq x4_2 x5_3 l0 x308001_2 x308002_2 = some r) ∧ Aside0 (kq ≤ kj3) ∧ Aside0 (Kd.R k25 25 w' w.heap.size (fun _ => True) v4 x4_2) ∧ Aside0 (IsS80 w w' gb307 l0 x308001_2 x308002_2) ∧ Aside0 (Below w.heap.size w w'))
    case atStart => exact ⟨(([] : List (S25))), (x308001_3), (x308002_3), H', ⟨Nat.le_refl _⟩, ⟨by (with_reducible repeat (first | apply Kd.R_alloc | apply Kd.R_drewN | apply Kd.R_drew)); exact HO_4.out⟩, ⟨by repeat (first | (with_reducible first | exact HI307.out | apply IsS80.alloc | apply IsS80.drewN | apply IsS80.drew | apply IsS80.set_1 | apply IsS80.set_2) | exact HI307.out)⟩, ⟨by repeat (first | (with_reducible first | exact HB.out | apply below_alloc | apply pw_below_drewN | apply below_drew1 | refine below_set ?_ (IsS80.ge HI307.out)) | exact HB.out)⟩⟩
    case round =>
     clear H'
     obtain ⟨x4_2, x308001_2, x308002_2, HA, HK2, HO_4, HI307, HB⟩ := hrel
     cases gk with
     | zero => exact absurd HA.out (by simp [spec_DrawCommonPlace.l0])
     | succ k2 =>
      have H := HA.out
      clear HA
      simp only [spec_DrawCommonPlace.l0] at H
      by_cases c11 : (x4_2.length : Int) < x5_3
      ·
       rw [if_pos c11] at H
       have c11b0 : decide ((x4_2.length : Int) < x5_3) = true := decide_eq_true c11
       clear c11
       have HC12 := Aside0.mk H
       clear H
       obtain ⟨Ao13, co13, eo13⟩ := Kd.R_slice HO_4.out
       subst eo13
       go_upto_region 8 with (fail)
       go_cut [28] (fun v28 wc => ∃ (kq : Nat) (x28_11 : Bool) (x308001_11 : Int) (x308002_11 : Int), v28 = .bool x28_11 ∧ Aside0 (spec_DrawCommonPlace.j2 kq x4_2 x5_3 (x4_2.length : Int) x28_11 l0 x308001_11 x308002_11 = some r) ∧ Aside0 (kq ≤ k2) ∧ Aside0 (Kd.R k25 25 wc w.heap.size (fun _ => True) (.slice Ao13 x4_2.length co13) x4_2) ∧ Aside0 (IsS80 w wc gb307 l0 x308001_11 x308002_11) ∧ Aside0 (Below w.heap.size w wc))
       case first =>
        have H := HC12.out
        clear HC12
        by_cases c14 : (x4_2.length : Int) > 0
        ·
         rw [if_pos c14] at H
         have c14b0 : decide (0 < (x4_2.length : Int)) = true := decide_eq_true c14
         have c14b1 : decide (0 < x4_2.length) = true := decide_eq_true (by omega)
         clear c14
         (first | rw [c14b0] | (simp only [i64_w, i32_w]; rw [c14b0]) | skip)
         replace H := Option.bind_eq_some_iff.mp H
         obtain ⟨⟨t317, t318, t319⟩, A150, H⟩ := H
         replace H : (spec_DrawCommonPlace.j2 k2 x4_2 x5_3 (x4_2.length : Int) t317 l0 t318 t319) = some r := H
         have A15 := Aside0.mk A150
         clear A150
         have H' := Aside0.mk H
         clear H
         go_wp2_with (first | (go_at_call 63; (with_reducible refine (spec_l1Cur_one.calls gb307 l0 x308001_2 x308002_2 2 t317 t318 t319 w _ ?side1 ?side2 A15.out).mono ?_); (case side1 => repeat (first | (with_reducible first | exact HI307.out | apply IsS80.alloc | apply IsS80.drewN | apply IsS80.drew | apply IsS80.set_1 | apply IsS80.set_2) | exact HI307.out)); (case side2 => repeat (first | (with_reducible first | exact HB.out | apply below_alloc | apply pw_below_drewN | apply below_drew1 | refine below_set ?_ (IsS80.ge HI307.out)) | exact HB.out)); rintro e w16 ⟨rfl, hi, hb, hk⟩; have n0_ := Aside0.mk (Kd.R_mono (Kd.R_keep (IsS80.apart (show IsS80 w _ gb307 l0 x308001_2 x308002_2 from by repeat (first | (with_reducible first | exact HI307.out | apply IsS80.alloc | apply IsS80.drewN | apply IsS80.drew | apply IsS80.set_1 | apply IsS80.set_2) | exact HI307.out)) (by (with_reducible repeat (first | apply Kd.R_alloc | apply Kd.R_drewN | apply Kd.R_drew)); exact HO_4.out) (by decide)) hk (fun _ h => h.2)) (fun _ h => h.1)); have n1_ := Aside0.mk (hb); have n2_ := Aside0.mk (hi); clear HO_4; clear HB; clear HI307; have HO_4 := n0_; have HB := n1_; have HI307 := n2_; clear n0_ n1_ n2_; (try clear hb); (try clear hb2); (try clear hk); (try clear hi)))
         go_meet
         case rel => exact ⟨_, (t317), (t318), (t319), (by first | rfl | (simp; done) | (simp [*]; done)), H', ⟨by have := HJ3.out; have := HK2.out; first | omega | exact Nat.le_refl _⟩, ⟨by (with_reducible repeat (first | apply Kd.R_alloc | apply Kd.R_drewN | apply Kd.R_drew)); exact HO_4.out⟩, ⟨by repeat (first | (with_reducible first | exact HI307.out | apply IsS80.alloc | apply IsS80.drewN | apply IsS80.drew | apply IsS80.set_1 | apply IsS80.set_2) | exact HI307.out)⟩, ⟨by repeat (first | (with_reducible first | exact HB.out | apply below_alloc | apply pw_below_drewN | apply below_drew1 | refine below_set ?_ (IsS80.ge HI307.out)) | exact HB.out)⟩⟩
        ·
         rw [if_neg c14] at H
         have c14b0 : decide (0 < (x4_2.length : Int)) = false := decide_eq_false c14
         have c14b1 : decide (0 < x4_2.length) = false := decide_eq_false (by omega)
         clear c14
         (first | rw [c14b0] | (simp only [i64_w, i32_w]; rw [c14b0]) | skip)
         have H' := Aside0.mk H
         clear H
         go_wp2
         go_meet
         case rel => exact ⟨_, (false), (x308001_2), (x308002_2), (by first | rfl | (simp; done) | (simp [*]; done)), H', ⟨by have := HJ3.out; have := HK2.out; first | omega | exact Nat.le_refl _⟩, ⟨by (with_reducible repeat (first | apply Kd.R_alloc | apply Kd.R_drewN | apply Kd.R_drew)); exact HO_4.out⟩, ⟨by repeat (first | (with_reducible first | exact HI307.out | apply IsS80.alloc | apply IsS80.drewN | apply IsS80.drew | apply IsS80.set_1 | apply IsS80.set_2) | exact HI307.out)⟩, ⟨by repeat (first | (with_reducible first | exact HB.out | apply below_alloc | apply pw_below_drewN | apply below_drew1 | refine below_set ?_ (IsS80.ge HI307.out)) | exact HB.out)⟩⟩
       case rest =>
        clear HC12
        (try clear c11b0); (try clear c14b0); (try clear c14b1)
        obtain ⟨kq, x28_11, x308001_11, x308002_11, rfl, HA, HJ11, HO_4, HI307, HB⟩ := hcut
        cases kq with
        | zero => exact absurd HA.out (by simp [spec_DrawCommonPlace.j2])
        | succ kj11 =>
         have H := HA.out
         clear HA
         simp only [spec_DrawCommonPlace.j2] at H
         refine dite (x28_11 = true) (fun c17 => ?qp27) (fun c17 => ?qn27)
         case' qp27 =>
          subst c17
          have H1 : ((spec_l1Cur_pick.f l0 x308001_11 x308002_11 (x4_2.length : Int)).bind fun bt320 => (if 0 ≤ bt320.1 then (if bt320.1 < (x4_2.length : Int) then (if x4_2.length < 5864062014805 then (spec_DrawCommonPlace.l0 kj11 (x4_2 ++ [(⟨(rd_T25 x4_2 bt320.1).f0, (rd_T25 x4_2 bt320.1).f1, (rd_T25 x4_2 bt320.1).f2⟩ : S25)]) x5_3 l0 bt320.2.1 bt320.2.2) else (none)) else (none)) else (none))) = some r := by rw [if_pos rfl] at H; exact H
          clear H
          have H := H1
          clear H1
          replace H := Option.bind_eq_some_iff.mp H
          obtain ⟨⟨t320, t321, t322⟩, A180, H⟩ := H
          replace H : (if 0 ≤ t320 then (if t320 < (x4_2.length : Int) then (if x4_2.length < 5864062014805 then (spec_DrawCommonPlace.l0 kj11 (x4_2 ++ [(⟨(rd_T25 x4_2 t320).f0, (rd_T25 x4_2 t320).f1, (rd_T25 x4_2 t320).f2⟩ : S25)]) x5_3 l0 t321 t322) else (none)) else (none)) else (none)) = some r := H
          have A18 := Aside0.mk A180
          clear A180
          refine dite (0 ≤ t320) (fun c19 => ?qp28) (fun c19 => ?qn28)
          case' qp28 =>
           rw [if_pos c19] at H
           have c19b0 : decide (0 ≤ t320) = true := decide_eq_true c19
           clear c19
           refine dite (t320 < (x4_2.length : Int)) (fun c20 => ?qp29) (fun c20 => ?qn29)
           case' qp29 =>
            rw [if_pos c20] at H
            have c20b0 : decide (t320 < (x4_2.length : Int)) = true := decide_eq_true c20
            clear c20
            refine dite (x4_2.length < 5864062014805) (fun c21 => ?qp30) (fun c21 => ?qn30)
            case' qp30 =>
             rw [if_pos c21] at H
             have LMcx0 := Aside0.mk c21
             clear c21
             obtain ⟨y324, hy324⟩ : ∃ y_ : List (S25), y_ = (x4_2 ++ [(⟨(rd_T25 x4_2 t320).f0, (rd_T25 x4_2 t320).f1, (rd_T25 x4_2 t320).f2⟩ : S25)]) := ⟨_, rfl⟩
             replace H : (spec_DrawCommonPlace.l0 kj11 y324 x5_3 l0 t321 t322) = some r := by first | (rw [hy324]; with_reducible exact H) | (have H2_ := (Option.bind_some _ _).symm.trans H; rw [hy324]; with_reducible exact H2_) | (have H2_ := (Option.bind_some _ _).symm.trans H; with_reducible exact H2_) | with_reducible exact H | (rw [hy324]; exact H) | exact H
             have Nyx1 := Aside0.mk hy324
             clear hy324
            case' qn30 =>
             rw [if_neg c21] at H
             exact absurd H (by simp)
           case' qn29 =>
            rw [if_neg c20] at H
            exact absurd H (by simp)
          case' qn28 =>
           rw [if_neg c19] at H
           exact absurd H (by simp)
         case' qn27 =>
          replace c17 := Bool.eq_false_iff.mpr c17
          subst c17
          have H1 : ((spec_l1Cur_place.f kj11 l0 x308001_11 x308002_11).bind fun bt327 => (if x4_2.length < 5864062014805 then (spec_DrawCommonPlace.l0 kj11 (x4_2 ++ [(⟨bt327.1, bt327.2.1, bt327.2.2.1⟩ : S25)]) x5_3 l0 bt327.2.2.2.1 bt327.2.2.2.2) else (none))) = some r := by rw [if_neg (show ¬ (false = true) by decide)] at H; exact H
          clear H
          have H := H1
          clear H1
          replace H := Option.bind_eq_some_iff.mp H
          obtain ⟨⟨t327, t328, t329, t330, t331⟩, A240, H⟩ := H
          replace H : (if x4_2.length < 5864062014805 then (spec_DrawCommonPlace.l0 kj11 (x4_2 ++ [(⟨t327, t328, t329⟩ : S25)]) x5_3 l0 t330 t331) else (none)) = some r := H
          have A24 := Aside0.mk A240
          clear A240
          refine dite (x4_2.length < 5864062014805) (fun c25 => ?qp31) (fun c25 => ?qn31)
          case' qp31 =>
           rw [if_pos c25] at H
           have LMcx0 := Aside0.mk c25
           clear c25
           obtain ⟨y332, hy332⟩ : ∃ y_ : List (S25), y_ = (x4_2 ++ [(⟨t327, t328, t329⟩ : S25)]) := ⟨_, rfl⟩
           replace H : (spec_DrawCommonPlace.l0 kj11 y332 x5_3 l0 t330 t331) = some r := by first | (rw [hy332]; with_reducible exact H) | (have H2_ := (Option.bind_some _ _).symm.trans H; rw [hy332]; with_reducible exact H2_) | (have H2_ := (Option.bind_some _ _).symm.trans H; with_reducible exact H2_) | with_reducible exact H | (rw [hy332]; exact H) | exact H
           have Nyx1 := Aside0.mk hy332
           clear hy332
          case' qn31 =>
           rw [if_neg c25] at H
           exact absurd H (by simp)
         all_goals
          have H' := Aside0.mk H
          clear H
          go_wp2_with (first | ((with_reducible refine gate_callee (f := 64) rfl ?_); refine goesL_ (some 40) rfl rfl Try.func64 (by kernel_rfl) rfl #[.pointer (some ⟨gb307, 0, none⟩)] rfl (by (try simp only [List.map_toArray, List.map_cons, List.map_nil]); first | done | rfl | (simp only [List.length_drop, List.length_take]; rfl)) ?_; (with_reducible refine (spec_l1Cur_place.calls kj11 gb307 l0 x308001_11 x308002_11 t327 t328 t329 t330 t331 w _ ?side1 ?side2 A24.out).mono ?_); (case side1 => repeat (first | (with_reducible first | exact HI307.out | apply IsS80.alloc | apply IsS80.drewN | apply IsS80.drew | apply IsS80.set_1 | apply IsS80.set_2) | exact HI307.out)); (case side2 => repeat (first | (with_reducible first | exact HB.out | apply below_alloc | apply pw_below_drewN | apply below_drew1 | refine below_set ?_ (IsS80.ge HI307.out)) | exact HB.out)); rintro e wx0 ⟨rfl, hi, hb, hk⟩; refine ⟨_, rfl, ?_⟩; have n0_ := Aside0.mk (Kd.R_mono (Kd.R_keep (IsS80.apart (show IsS80 w _ gb307 l0 x308001_11 x308002_11 from by repeat (first | (with_reducible first | exact HI307.out | apply IsS80.alloc | apply IsS80.drewN | apply IsS80.drew | apply IsS80.set_1 | apply IsS80.set_2) | exact HI307.out)) (by (with_reducible repeat (first | apply Kd.R_alloc | apply Kd.R_drewN | apply Kd.R_drew)); exact HO_4.out) (by decide)) hk (fun _ h => h.2)) (fun _ h => h.1)); have n1_ := Aside0.mk (hb); have n2_ := Aside0.mk (hi); clear HO_4; clear HB; clear HI307; have HO_4 := n0_; have HB := n1_; have HI307 := n2_; clear n0_ n1_ n2_; (try clear hb); (try clear hb2); (try clear hk); (try clear hi)) | ((with_reducible refine gate_builtin (b := .append) (xs := #[.tmp 38, .tmp 41]) rfl ?_); at_builtin; refine Kd.R_append k25 (w0 := w) w.heap.size rfl (.tmp 38) (.tmp 41) 37 25 (.agg #[(.int .i64 0), (.int .i64 0), (.bool false)]) 24 rfl Try.underlying37 info25 rfl (by decide) (by omega) (.slice Ao13 x4_2.length co13) x4_2 (⟨t327, t328, t329⟩ : S25) [.int .i64 t327, .int .i64 t328, .bool t329] (fun _ => True) (fun _ => False) rfl rfl ?aP (fun _ hk => hk.elim) ?aF ?aO ?aB ?aS ?aL ?_; (case aP => exact k25_mkM _ _ _ (⟨t327, t328, t329⟩ : S25)); (case aB => exact (by repeat (first | (with_reducible first | exact HB.out | apply below_alloc | apply pw_below_drewN | apply below_drew1 | refine below_set ?_ (IsS80.ge HI307.out)) | exact HB.out))); (case aF => exact (fun _ _ => trivial)); (case aO => exact (by (with_reducible repeat (first | apply Kd.R_alloc | apply Kd.R_drewN | apply Kd.R_drew)); exact HO_4.out)); (case aS => exact (below_size (by repeat (first | (with_reducible first | exact HB.out | apply below_alloc | apply pw_below_drewN | apply below_drew1 | refine below_set ?_ (IsS80.ge HI307.out)) | exact HB.out)))); (case aL => have := LMcx0.out; omega); intro vx2 wx1 ho hb hg hat; rw [← Nyx1.out] at ho; have n0_ := Aside0.mk (IsS80.grown (by repeat (first | (with_reducible first | exact HI307.out | apply IsS80.alloc | apply IsS80.drewN | apply IsS80.drew | apply IsS80.set_1 | apply IsS80.set_2) | exact HI307.out)) hg (IsS80.own_ne HI307.out HO_4.out (by decide))); have n1_ := Aside0.mk (hb); have n2_ := Aside0.mk (ho); clear HI307; clear HB; clear HO_4; have HI307 := n0_; have HB := n1_; have HOx3 := n2_; clear n0_ n1_ n2_; clear ho hb hg hat) | ((with_reducible refine gate_callee (f := 62) rfl ?_); refine goesL_ (some 33) rfl rfl Try.func62 (by kernel_rfl) rfl #[.pointer (some ⟨gb307, 0, none⟩), .int .i64 (x4_2.length : Int)] rfl (by (try simp only [List.map_toArray, List.map_cons, List.map_nil]); first | done | rfl | (simp only [List.length_drop, List.length_take]; rfl)) ?_; (with_reducible refine (spec_l1Cur_pick.calls gb307 l0 x308001_11 x308002_11 (x4_2.length : Int) t320 t321 t322 w _ ?side1 ?side2 A18.out).mono ?_); (case side1 => repeat (first | (with_reducible first | exact HI307.out | apply IsS80.alloc | apply IsS80.drewN | apply IsS80.drew | apply IsS80.set_1 | apply IsS80.set_2) | exact HI307.out)); (case side2 => repeat (first | (with_reducible first | exact HB.out | apply below_alloc | apply pw_below_drewN | apply below_drew1 | refine below_set ?_ (IsS80.ge HI307.out)) | exact HB.out)); rintro e wx0 ⟨rfl, hi, hb, hk⟩; refine ⟨_, rfl, ?_⟩; have n0_ := Aside0.mk (Kd.R_mono (Kd.R_keep (IsS80.apart (show IsS80 w _ gb307 l0 x308001_11 x308002_11 from by repeat (first | (with_reducible first | exact HI307.out | apply IsS80.alloc | apply IsS80.drewN | apply IsS80.drew | apply IsS80.set_1 | apply IsS80.set_2) | exact HI307.out)) (by (with_reducible repeat (first | apply Kd.R_alloc | apply Kd.R_drewN | apply Kd.R_drew)); exact HO_4.out) (by decide)) hk (fun _ h => h.2)) (fun _ h => h.1)); have n1_ := Aside0.mk (hb); have n2_ := Aside0.mk (hi); clear HO_4; clear HB; clear HI307; have HO_4 := n0_; have HB := n1_; have HI307 := n2_; clear n0_ n1_ n2_; (try clear hb); (try clear hb2); (try clear hk); (try clear hi); have px2 : 0 ≤ (t320 : Int) := of_decide_eq_true (by first | (with_reducible assumption) | assumption); have qx2 : t320 < (x4_2.length : Int) := of_decide_eq_true (by first | (with_reducible assumption) | assumption); obtain ⟨adx2, ex2, hxx2_0, hxx2_1, hxx2_2⟩ := at_T25 (Kd.R_reads' HO_4.out).2.2 t320 px2 qx2; cases ex2; replace px2 := eq_true px2; replace qx2 := eq_true qx2) | ((with_reducible refine gate_builtin (b := .append) (xs := #[.tmp 29, .tmp 36]) rfl ?_); at_builtin; refine Kd.R_append k25 (w0 := w) w.heap.size rfl (.tmp 29) (.tmp 36) 37 25 (.agg #[(.int .i64 0), (.int .i64 0), (.bool false)]) 24 rfl Try.underlying37 info25 rfl (by decide) (by omega) (.slice (some adx2) x4_2.length co13) x4_2 (⟨(rd_T25 x4_2 t320).f0, (rd_T25 x4_2 t320).f1, (rd_T25 x4_2 t320).f2⟩ : S25) [.int .i64 ((rd_T25 x4_2 t320).f0), .int .i64 ((rd_T25 x4_2 t320).f1), .bool ((rd_T25 x4_2 t320).f2)] (fun _ => True) (fun _ => False) rfl rfl ?aP (fun _ hk => hk.elim) ?aF ?aO ?aB ?aS ?aL ?_; (case aP => exact k25_mkM _ _ _ (⟨(rd_T25 x4_2 t320).f0, (rd_T25 x4_2 t320).f1, (rd_T25 x4_2 t320).f2⟩ : S25)); (case aB => exact (by repeat (first | (with_reducible first | exact HB.out | apply below_alloc | apply pw_below_drewN | apply below_drew1 | refine below_set ?_ (IsS80.ge HI307.out)) | exact HB.out))); (case aF => exact (fun _ _ => trivial)); (case aO => exact (by (with_reducible repeat (first | apply Kd.R_alloc | apply Kd.R_drewN | apply Kd.R_drew)); exact HO_4.out)); (case aS => exact (below_size (by repeat (first | (with_reducible first | exact HB.out | apply below_alloc | apply pw_below_drewN | apply below_drew1 | refine below_set ?_ (IsS80.ge HI307.out)) | exact HB.out)))); (case aL => have := LMcx0.out; omega); intro vx3 wx1 ho hb hg hat; rw [← Nyx1.out] at ho; have n0_ := Aside0.mk (IsS80.grown (by repeat (first | (with_reducible first | exact HI307.out | apply IsS80.alloc | apply IsS80.drewN | apply IsS80.drew | apply IsS80.set_1 | apply IsS80.set_2) | exact HI307.out)) hg (IsS80.own_ne HI307.out HO_4.out (by decide))); have n1_ := Aside0.mk (hb); have n2_ := Aside0.mk (ho); clear HI307; clear HB; clear HO_4; have HI307 := n0_; have HB := n1_; have HOx4 := n2_; clear n0_ n1_ n2_; clear ho hb hg hat))
         ·
          go_roundg kj11
          case measure => have := HJ3.out; have := HK2.out; have := HJ11.out; omega
          case rel => exact ⟨(y332), (t330), (t331), H', ⟨by have := HJ3.out; have := HK2.out; have := HJ11.out; omega⟩, ⟨by (with_reducible repeat (first | apply Kd.R_alloc | apply Kd.R_drewN | apply Kd.R_drew)); exact HOx3.out⟩, ⟨by repeat (first | (with_reducible first | exact HI307.out | apply IsS80.alloc | apply IsS80.drewN | apply IsS80.drew | apply IsS80.set_1 | apply IsS80.set_2) | exact HI307.out)⟩, ⟨by repeat (first | (with_reducible first | exact HB.out | apply below_alloc | apply pw_below_drewN | apply below_drew1 | refine below_set ?_ (IsS80.ge HI307.out)) | exact HB.out)⟩⟩
         ·
          go_roundg kj11
          case measure => have := HJ3.out; have := HK2.out; have := HJ11.out; omega
          case rel => exact ⟨(y324), (t321), (t322), H', ⟨by have := HJ3.out; have := HK2.out; have := HJ11.out; omega⟩, ⟨by (with_reducible repeat (first | apply Kd.R_alloc | apply Kd.R_drewN | apply Kd.R_drew)); exact HOx4.out⟩, ⟨by repeat (first | (with_reducible first | exact HI307.out | apply IsS80.alloc | apply IsS80.drewN | apply IsS80.drew | apply IsS80.set_1 | apply IsS80.set_2) | exact HI307.out)⟩, ⟨by repeat (first | (with_reducible first | exact HB.out | apply below_alloc | apply pw_below_drewN | apply below_drew1 | refine below_set ?_ (IsS80.ge HI307.out)) | exact HB.out)⟩⟩
      ·
       rw [if_neg c11] at H
       have c11b0 : decide ((x4_2.length : Int) < x5_3) = false := decide_eq_false c11
       clear c11
       have HC28 := Aside0.mk H
       clear H
       obtain ⟨Ao29, co29, eo29⟩ := Kd.R_slice HO_4.out
       subst eo29
       go_upto_region 11 with (fail)
       go_cut [48] (fun v48 wc => ∃ (kq : Nat) (x48_27 : Bool) (x308001_27 : Int) (x308002_27 : Int), v48 = .bool x48_27 ∧ Aside0 (spec_DrawCommonPlace.j3 kq x4_2 x5_3 x48_27 l0 x308001_27 x308002_27 = some r) ∧ Aside0 (kq ≤ k2) ∧ Aside0 (Kd.R k25 25 wc w.heap.size (fun _ => True) (.slice Ao29 x4_2.length co29) x4_2) ∧ Aside0 (IsS80 w wc gb307 l0 x308001_27 x308002_27) ∧ Aside0 (Below w.heap.size w wc))
       case first =>
        have H := HC28.out
        clear HC28
        by_cases c30 : x5_3 > 0
        ·
         rw [if_pos c30] at H
         have c30b0 : decide (0 < x5_3) = true := decide_eq_true c30
         clear c30
         (first | rw [c30b0] | (simp only [i64_w, i32_w]; rw [c30b0]) | skip)
         replace H := Option.bind_eq_some_iff.mp H
         obtain ⟨⟨t335, t336, t337⟩, A310, H⟩ := H
         replace H : (spec_DrawCommonPlace.j3 k2 x4_2 x5_3 t335 l0 t336 t337) = some r := H
         have A31 := Aside0.mk A310
         clear A310
         have H' := Aside0.mk H
         clear H
         go_wp2_with (first | (go_at_call 63; (with_reducible refine (spec_l1Cur_one.calls gb307 l0 x308001_2 x308002_2 20 t335 t336 t337 w _ ?side1 ?side2 A31.out).mono ?_); (case side1 => repeat (first | (with_reducible first | exact HI307.out | apply IsS80.alloc | apply IsS80.drewN | apply IsS80.drew | apply IsS80.set_1 | apply IsS80.set_2) | exact HI307.out)); (case side2 => repeat (first | (with_reducible first | exact HB.out | apply below_alloc | apply pw_below_drewN | apply below_drew1 | refine below_set ?_ (IsS80.ge HI307.out)) | exact HB.out)); rintro e w32 ⟨rfl, hi, hb, hk⟩; have n0_ := Aside0.mk (Kd.R_mono (Kd.R_keep (IsS80.apart (show IsS80 w _ gb307 l0 x308001_2 x308002_2 from by repeat (first | (with_reducible first | exact HI307.out | apply IsS80.alloc | apply IsS80.drewN | apply IsS80.drew | apply IsS80.set_1 | apply IsS80.set_2) | exact HI307.out)) (by (with_reducible repeat (first | apply Kd.R_alloc | apply Kd.R_drewN | apply Kd.R_drew)); exact HO_4.out) (by decide)) hk (fun _ h => h.2)) (fun _ h => h.1)); have n1_ := Aside0.mk (hb); have n2_ := Aside0.mk (hi); clear HO_4; clear HB; clear HI307; have HO_4 := n0_; have HB := n1_; have HI307 := n2_; clear n0_ n1_ n2_; (try clear hb); (try clear hb2); (try clear hk); (try clear hi)))
         go_meet
         case rel => exact ⟨_, (t335), (t336), (t337), (by first | rfl | (simp; done) | (simp [*]; done)), H', ⟨by have := HJ3.out; have := HK2.out; first | omega | exact Nat.le_refl _⟩, ⟨by (with_reducible repeat (first | apply Kd.R_alloc | apply Kd.R_drewN | apply Kd.R_drew)); exact HO_4.out⟩, ⟨by repeat (first | (with_reducible first | exact HI307.out | apply IsS80.alloc | apply IsS80.drewN | apply IsS80.drew | apply IsS80.set_1 | apply IsS80.set_2) | exact HI307.out)⟩, ⟨by repeat (first | (with_reducible first | exact HB.out | apply below_alloc | apply pw_below_drewN | apply below_drew1 | refine below_set ?_ (IsS80.ge HI307.out)) | exact HB.out)⟩⟩
        ·
         rw [if_neg c30] at H
         have c30b0 : decide (0 < x5_3) = false := decide_eq_false c30
         clear c30
         (first | rw [c30b0] | (simp only [i64_w, i32_w]; rw [c30b0]) | skip)
         have H' := Aside0.mk H
         clear H
         go_wp2
         go_meet
         case rel => exact ⟨_, (false), (x308001_2), (x308002_2), (by first | rfl | (simp; done) | (simp [*]; done)), H', ⟨by have := HJ3.out; have := HK2.out; first | omega | exact Nat.le_refl _⟩, ⟨by (with_reducible repeat (first | apply Kd.R_alloc | apply Kd.R_drewN | apply Kd.R_drew)); exact HO_4.out⟩, ⟨by repeat (first | (with_reducible first | exact HI307.out | apply IsS80.alloc | apply IsS80.drewN | apply IsS80.drew | apply IsS80.set_1 | apply IsS80.set_2) | exact HI307.out)⟩, ⟨by repeat (first | (with_reducible first | exact HB.out | apply below_alloc | apply pw_below_drewN | apply below_drew1 | refine below_set ?_ (IsS80.ge HI307.out)) | exact HB.out)⟩⟩
       case rest =>
        clear HC28
        (try clear c11b0); (try clear c14b0); (try clear c14b1); (try clear c19b0); (try clear c20b0); (try clear c30b0); (try clear hx323_0); (try clear hx323_1); (try clear hx323_2); (try clear p323); (try clear q323)
        obtain ⟨kq, x48_27, x308001_27, x308002_27, rfl, HA, HJ27, HO_4, HI307, HB⟩ := hcut
        cases kq with
        | zero => exact absurd HA.out (by simp [spec_DrawCommonPlace.j3])
        | succ kj27 =>
         have H := HA.out
         clear HA
         simp only [spec_DrawCommonPlace.j3] at H
         by_cases c33 : x48_27 = true
         ·
          subst c33
          have H1 : ((spec_l1Cur_pick.f l0 x308001_27 x308002_27 x5_3).bind fun bt338 => ((spec_l1Cur_anyPlace.f kj27 l0 bt338.2.1 bt338.2.2).bind fun bt341 => (if 0 ≤ bt338.1 then (if bt338.1 < (x4_2.length : Int) then (some (x4_2.set (bt338.1 : Int).toNat (⟨bt341.1, bt341.2.1, bt341.2.2.1⟩ : S25))) else (none)) else (none)))) = some r := by rw [if_pos rfl] at H; exact H
          clear H
          have H := H1
          clear H1
          replace H := Option.bind_eq_some_iff.mp H
          obtain ⟨⟨t338, t339, t340⟩, A340, H⟩ := H
          replace H : ((spec_l1Cur_anyPlace.f kj27 l0 t339 t340).bind fun bt341 => (if 0 ≤ t338 then (if t338 < (x4_2.length : Int) then (some (x4_2.set (t338 : Int).toNat (⟨bt341.1, bt341.2.1, bt341.2.2.1⟩ : S25))) else (none)) else (none))) = some r := H
          have A34 := Aside0.mk A340
          clear A340
          replace H := Option.bind_eq_some_iff.mp H
          obtain ⟨⟨t341, t342, t343, t344, t345⟩, A350, H⟩ := H
          replace H : (if 0 ≤ t338 then (if t338 < (x4_2.length : Int) then (some (x4_2.set (t338 : Int).toNat (⟨t341, t342, t343⟩ : S25))) else (none)) else (none)) = some r := H
          have A35 := Aside0.mk A350
          clear A350
          by_cases c36 : 0 ≤ t338
          ·
           rw [if_pos c36] at H
           have c36b0 : decide (0 ≤ t338) = true := decide_eq_true c36
           clear c36
           by_cases c37 : t338 < (x4_2.length : Int)
           ·
            rw [if_pos c37] at H
            have c37b0 : decide (t338 < (x4_2.length : Int)) = true := decide_eq_true c37
            clear c37
            obtain ⟨y346, hy346⟩ : ∃ y_ : List (S25), y_ = (x4_2.set (t338 : Int).toNat (⟨t341, t342, t343⟩ : S25)) := ⟨_, rfl⟩
            replace H : (some y346) = some r := by first | (rw [hy346]; with_reducible exact H) | (have H2_ := (Option.bind_some _ _).symm.trans H; rw [hy346]; with_reducible exact H2_) | (have H2_ := (Option.bind_some _ _).symm.trans H; with_reducible exact H2_) | with_reducible exact H | (rw [hy346]; exact H) | exact H
            have Ny346 := Aside0.mk hy346
            clear hy346
            obtain rfl := Option.some.inj H
            go_wp2_with (first | ((with_reducible refine gate_callee (f := 62) rfl ?_); refine goesL_ (some 52) rfl rfl Try.func62 (by kernel_rfl) rfl #[.pointer (some ⟨gb307, 0, none⟩), .int .i64 x5_3] rfl (by (try simp only [List.map_toArray, List.map_cons, List.map_nil]); first | done | rfl | (simp only [List.length_drop, List.length_take]; rfl)) ?_; (with_reducible refine (spec_l1Cur_pick.calls gb307 l0 x308001_27 x308002_27 x5_3 t338 t339 t340 w _ ?side1 ?side2 A34.out).mono ?_); (case side1 => repeat (first | (with_reducible first | exact HI307.out | apply IsS80.alloc | apply IsS80.drewN | apply IsS80.drew | apply IsS80.set_1 | apply IsS80.set_2) | exact HI307.out)); (case side2 => repeat (first | (with_reducible first | exact HB.out | apply below_alloc | apply pw_below_drewN | apply below_drew1 | refine below_set ?_ (IsS80.ge HI307.out)) | exact HB.out)); rintro e w39 ⟨rfl, hi, hb, hk⟩; refine ⟨_, rfl, ?_⟩; have n0_ := Aside0.mk (Kd.R_mono (Kd.R_keep (IsS80.apart (show IsS80 w _ gb307 l0 x308001_27 x308002_27 from by repeat (first | (with_reducible first | exact HI307.out | apply IsS80.alloc | apply IsS80.drewN | apply IsS80.drew | apply IsS80.set_1 | apply IsS80.set_2) | exact HI307.out)) (by (with_reducible repeat (first | apply Kd.R_alloc | apply Kd.R_drewN | apply Kd.R_drew)); exact HO_4.out) (by decide)) hk (fun _ h => h.2)) (fun _ h => h.1)); have n1_ := Aside0.mk (hb); have n2_ := Aside0.mk (hi); clear HO_4; clear HB; clear HI307; have HO_4 := n0_; have HB := n1_; have HI307 := n2_; clear n0_ n1_ n2_; (try clear hb); (try clear hb2); (try clear hk); (try clear hi)) | ((with_reducible refine gate_callee (f := 60) rfl ?_); refine goesL_ (some 54) rfl rfl Try.func60 (by kernel_rfl) rfl #[.pointer (some ⟨gb307, 0, none⟩)] rfl (by (try simp only [List.map_toArray, List.map_cons, List.map_nil]); first | done | rfl | (simp only [List.length_drop, List.length_take]; rfl)) ?_; (with_reducible refine (spec_l1Cur_anyPlace.calls kj27 gb307 l0 t339 t340 t341 t342 t343 t344 t345 w _ ?side1 ?side2 A35.out).mono ?_); (case side1 => repeat (first | (with_reducible first | exact HI307.out | apply IsS80.alloc | apply IsS80.drewN | apply IsS80.drew | apply IsS80.set_1 | apply IsS80.set_2) | exact HI307.out)); (case side2 => repeat (first | (with_reducible first | exact HB.out | apply below_alloc | apply pw_below_drewN | apply below_drew1 | refine below_set ?_ (IsS80.ge HI307.out)) | exact HB.out)); rintro e w40 ⟨rfl, hi, hb, hk⟩; refine ⟨_, rfl, ?_⟩; have n0_ := Aside0.mk (Kd.R_mono (Kd.R_keep (IsS80.apart (show IsS80 w _ gb307 l0 t339 t340 from by repeat (first | (with_reducible first | exact HI307.out | apply IsS80.alloc | apply IsS80.drewN | apply IsS80.drew | apply IsS80.set_1 | apply IsS80.set_2) | exact HI307.out)) (by (with_reducible repeat (first | apply Kd.R_alloc | apply Kd.R_drewN | apply Kd.R_drew)); exact HO_4.out) (by decide)) hk (fun _ h => h.2)) (fun _ h => h.1)); have n1_ := Aside0.mk (hb); have n2_ := Aside0.mk (hi); clear HO_4; clear HB; clear HI307; have HO_4 := n0_; have HB := n1_; have HI307 := n2_; clear n0_ n1_ n2_; (try clear hb); (try clear hb2); (try clear hk); (try clear hi); have p38 : 0 ≤ (t338 : Int) := of_decide_eq_true (by first | (with_reducible assumption) | assumption); have q38 : (t338 : Int) < ((x4_2.length : Int) : Int) := of_decide_eq_true (by first | (with_reducible assumption) | assumption); obtain ⟨go38, co38, eo38, gb38, gl38, cl38, HG38⟩ := Kd.R_form HO_4.out (by omega); (first | cases eo38 | (injection eo38 with ea_ en_ ec_; (first | subst ea_ | (injection ea_ with ea_; subst ea_)); subst ec_; clear en_)); have GB38 := Aside0.mk gb38; have GG38 := Aside0.mk HG38; clear gb38 gl38 HG38; obtain ⟨ce38, hcl38, hM38, hcc38, hfr38⟩ := Kd.R_elem HO_4.out z25 (t338 : Int) p38 q38; obtain rfl := k25_openM hM38; have hx38_0 : w40.cell? ⟨go38, (t338 : Int).toNat * 3, none⟩ = some (.int .i64 ((rd_T25 x4_2 t338).f0)) := hcc38 0 _ rfl; have hx38_1 : w40.cell? ⟨go38, (t338 : Int).toNat * 3 + 1, none⟩ = some (.int .i64 ((rd_T25 x4_2 t338).f1)) := hcc38 1 _ rfl; have hx38_2 : w40.cell? ⟨go38, (t338 : Int).toNat * 3 + 2, none⟩ = some (.bool ((rd_T25 x4_2 t338).f2)) := hcc38 2 _ rfl; have hf38_0 : w40.frozen? ⟨go38, (t338 : Int).toNat * 3, none⟩ = false := hfr38 0; have hf38_1 : w40.frozen? ⟨go38, (t338 : Int).toNat * 3 + 1, none⟩ = false := hfr38 1; have hf38_2 : w40.frozen? ⟨go38, (t338 : Int).toNat * 3 + 2, none⟩ = false := hfr38 2; clear hcl38 hcc38 hfr38 hM38; replace p38 := eq_true p38; replace q38 := eq_true q38; have HX41 := Aside0.mk (show Kd.R k25 25 w40 w.heap.size (fun _ => True) (.slice (some ⟨go38, 0, none⟩) x4_2.length co29) x4_2 from (by (with_reducible repeat (first | apply Kd.R_alloc | apply Kd.R_drewN | apply Kd.R_drew)); exact HO_4.out)); obtain ⟨ce41, hcl41, hM41, hcc41, hfr41⟩ := Kd.R_elem HX41.out z25 (t338 : Int) (of_decide_eq_true (by first | (with_reducible assumption) | assumption)) (by have h_ : (t338 : Int) < ((x4_2.length : Int) : Int) := of_decide_eq_true (by first | (with_reducible assumption) | assumption); first | exact h_ | (have e_ := (Kd.R_reads' HO_4.out).1; omega) | simpa using h_); obtain rfl := k25_openM hM41; have HP41 := Kd.R_seg HX41.out (t338 : Int) (of_decide_eq_true (by first | (with_reducible assumption) | assumption)) (by have h_ : (t338 : Int) < ((x4_2.length : Int) : Int) := of_decide_eq_true (by first | (with_reducible assumption) | assumption); first | exact h_ | (have e_ := (Kd.R_reads' HO_4.out).1; omega) | simpa using h_) (seg := [.int .i64 t341, .int .i64 t342, .bool t343]) (j := 0) hcl41 hcc41 (show 3 ≤ 3 from by decide) (x' := (⟨t341, t342, t343⟩ : S25)) (k25_mkM _ _ _ (⟨t341, t342, t343⟩ : S25) ) (fun _ hk => hk); have hx41_0 := hcc41 0 _ rfl; (try simp only [show (k25).sz = 3 from rfl, Nat.mul_one, Nat.add_zero] at hx41_0); have hf41_0 := hfr41 0; (try simp only [show (k25).sz = 3 from rfl, Nat.mul_one, Nat.add_zero] at hf41_0); have hx41_1 := hcc41 1 _ rfl; (try simp only [show (k25).sz = 3 from rfl, Nat.mul_one, Nat.add_zero] at hx41_1); have hf41_1 := hfr41 1; (try simp only [show (k25).sz = 3 from rfl, Nat.mul_one, Nat.add_zero] at hf41_1); have hx41_2 := hcc41 2 _ rfl; (try simp only [show (k25).sz = 3 from rfl, Nat.mul_one, Nat.add_zero] at hx41_2); have hf41_2 := hfr41 2; (try simp only [show (k25).sz = 3 from rfl, Nat.mul_one, Nat.add_zero] at hf41_2); clear hcl41 hcc41 hfr41 hM41) | ((with_reducible refine gate_store (t := 25) (p := 55) rfl ?_); refine store_event (t := 25) (p := 55) (v := ?vo_w42) (w1 := (((w40.setCell ⟨go38, (t338 : Int).toNat * 3, none⟩ (.int .i64 t341)).setCell ⟨go38, (t338 : Int).toNat * 3 + 1, none⟩ (.int .i64 t342)).setCell ⟨go38, (t338 : Int).toNat * 3 + 2, none⟩ (.bool t343))) ?hg ?ho ?hn ?hr ?_; (case ho => rfl); (case hg => rfl); (case hn => rfl); (case hr => first | (go_simp; done) | (go_simp; rfl)); intro w42 hw; have hg : w40.grownBy w42 (some go38) := (by rw [hw]; exact HP41.2); have hp_ : Kd.R k25 25 w42 w.heap.size (fun _ => True) (.slice (some ⟨go38, 0, none⟩) x4_2.length co29) y346 := (by rw [hw, Ny346.out]; exact HP41.1); clear HP41; have n0_ := Aside0.mk (hp_); have n1_ := Aside0.mk (IsS80.grown (by repeat (first | (with_reducible first | exact HI307.out | apply IsS80.alloc | apply IsS80.drewN | apply IsS80.drew | apply IsS80.set_1 | apply IsS80.set_2) | exact HI307.out)) hg (IsS80.own_ne HI307.out HO_4.out (by decide))); have n2_ := Aside0.mk ((by rw [hw]; exact below_set (below_set (below_set (HB.out) GB38.out) GB38.out) GB38.out : Below w.heap.size w w42)); clear HO_4; clear HI307; clear HB; have HO_4 := n0_; have HI307 := n1_; have HB := n2_; clear n0_ n1_ n2_; clear hg hw hp_))
            go_ret
            exact ⟨_, by first | rfl | (simp [errW_none, errW_some] <;> rfl) | (simp [*, errW_none, errW_some] <;> rfl), by (with_reducible repeat (first | apply Kd.R_alloc | apply Kd.R_drewN | apply Kd.R_drew)); exact HO_4.out, by repeat (first | (with_reducible first | exact HB.out | apply below_alloc | apply pw_below_drewN | apply below_drew1 | refine below_set ?_ (IsS80.ge HI307.out)) | exact HB.out)⟩
           · rw [if_neg c37] at H
             exact absurd H (by simp)
          · rw [if_neg c36] at H
            exact absurd H (by simp)
         ·
          replace c33 := Bool.eq_false_iff.mpr c33
          subst c33
          have H1 : (some x4_2) = some r := by rw [if_neg (show ¬ (false = true) by decide)] at H; exact H
          clear H
          have H := H1
          clear H1
          obtain rfl := Option.some.inj H
          go_wp2
          go_ret
          exact ⟨_, by first | rfl | (simp [errW_none, errW_some] <;> rfl) | (simp [*, errW_none, errW_some] <;> rfl), by (with_reducible repeat (first | apply Kd.R_alloc | apply Kd.R_drewN | apply Kd.R_drew)); exact HO_4.out, by repeat (first | (with_reducible first | exact HB.out | apply below_alloc | apply pw_below_drewN | apply below_drew1 | refine below_set ?_ (IsS80.ge HI307.out)) | exact HB.out)⟩

end Go.Proofs.Ytmjejlifohghjaa.FC
