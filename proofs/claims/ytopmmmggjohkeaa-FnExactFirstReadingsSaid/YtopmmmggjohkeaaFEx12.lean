-- laid by pr.py (wip/tools) over the kit's printer; Lean checks it
import Derived.Test.YtopmmmggjohkeaaFEx0
import Derived.Test.YtopmmmggjohkeaaFEx1
import Derived.Test.YtopmmmggjohkeaaFEx2
import Derived.Test.YtopmmmggjohkeaaFEx3
import Derived.Test.YtopmmmggjohkeaaFEx4
import Derived.Test.YtopmmmggjohkeaaFEx8
import Derived.Test.YtopmmmggjohkeaaFEx11
import Derived.Test.YtopmmmggjohkeaaMKRW
namespace Go.Proofs.Ytopmmmggjohkeaa.FE
open Go.RowKit Go.Proofs.YtopmmmggjohkeaaW.PrintWords Go.Proofs.YtopmmmggjohkeaaW.PrintLast Go.Proofs.YtopmmmggjohkeaaW.PrintMore
attribute [local go_sem] max2_int min2_int max_two min_two max_three min_three max_four min_four   -- for this text's walks alone
set_option linter.unusedVariables false
set_option linter.unusedSimpArgs false

/-! ### laws_FnExactFirstReadings: function 9 -/
mutual
def laws_FnExactFirstReadings.j0 : Nat → List Int → List Int → List ByteArray → Bool → List Int → List Int → List ByteArray → Bool → Bool → Option (Bool)
  | 0, _, _, _, _, _, _, _, _, _ => none
  | k + 1, x0, x1, x5, x6, x7, x8, x9, x10, x48 => if x48 = true then (some false) else ((laws_toIntS.f k x0).bind fun t179 => ((laws_eqIntS.f k x7 t179).bind fun t182 => (if t182 = true then ((laws_toIntS.f k x1).bind fun t183 => ((laws_eqIntS.f k x8 t183).bind fun t186 => (if t186 = true then ((laws_markIntS.f k x7 1).bind fun bt187 => ((laws_markIntS.f k x8 bt187.1).bind fun bt189 => (if bt189.1 < 0 then (laws_FnExactFirstReadings.j1 k x0 x1 x5 x6 x9 true) else ((laws_eqStringS.f k x9 x5).bind fun t191 => (if t191 = true then (laws_FnExactFirstReadings.j1 k x0 x1 x5 x6 x9 (x10 != x6)) else (laws_FnExactFirstReadings.j1 k x0 x1 x5 x6 x9 true)))))) else (some false)))) else (some false))))
def laws_FnExactFirstReadings.j1 : Nat → List Int → List Int → List ByteArray → Bool → List ByteArray → Bool → Option (Bool)
  | 0, _, _, _, _, _, _ => none
  | k + 1, x0, x1, x5, x6, x9, x77 => if x77 = true then (some false) else ((laws_markStringS.f k x9 1).bind fun bt192 => ((laws_heldStringS.f k bt192.2 1).bind fun t194 => (if t194 < 0 then (some false) else (if t194 = bt192.1 then ((laws_toIntS.f k x0).bind fun t195 => ((laws_toIntS.f k x1).bind fun t198 => ((impl_FirstReadings.f k t195 t198).bind fun bt201 => ((laws_eqStringS.f k bt201.1 x5).bind fun t205 => (if t205 = true then (laws_FnExactFirstReadings.j2 k bt192.2 bt192.1 (bt201.2 != x6)) else (laws_FnExactFirstReadings.j2 k bt192.2 bt192.1 true)))))) else (some false)))))
def laws_FnExactFirstReadings.j2 : Nat → List ByteArray → Int → Bool → Option (Bool)
  | 0, _, _, _ => none
  | k + 1, x9, x12, x105 => if x105 = true then (some false) else ((laws_heldStringS.f k x9 1).bind fun t206 => (if t206 < 0 then (some false) else (if t206 = x12 then (some true) else (some false))))
end
def laws_FnExactFirstReadings.f (k : Nat) (l0 : List Int) (l1 : List Int) : Option (Bool) := if (l0.length : Int) > 1048576 then (some true) else (if (l1.length : Int) > 1048576 then (some true) else ((laws_toIntS.f k l0).bind fun t158 => ((laws_toIntS.f k l1).bind fun t161 => ((spec_FirstReadings.f k t158 t161).bind fun bt164 => ((laws_toIntS.f k l0).bind fun t168 => ((laws_toIntS.f k l1).bind fun t171 => ((impl_FirstReadings.f k t168 t171).bind fun bt174 => ((laws_eqStringS.f k bt174.1 bt164.1).bind fun t178 => (if t178 = true then (laws_FnExactFirstReadings.j0 k l0 l1 bt164.1 bt164.2 t168 t171 bt174.1 bt174.2 (bt174.2 != bt164.2)) else (laws_FnExactFirstReadings.j0 k l0 l1 bt164.1 bt164.2 t168 t171 bt174.1 bt174.2 true))))))))))
theorem laws_FnExactFirstReadings.mono_l : ∀ k, (∀ y0 y1 y2 y3 y4 y5 y6 y7 y8, LeO (laws_FnExactFirstReadings.j0 k y0 y1 y2 y3 y4 y5 y6 y7 y8) (laws_FnExactFirstReadings.j0 (k + 1) y0 y1 y2 y3 y4 y5 y6 y7 y8)) ∧ (∀ y0 y1 y2 y3 y4 y5, LeO (laws_FnExactFirstReadings.j1 k y0 y1 y2 y3 y4 y5) (laws_FnExactFirstReadings.j1 (k + 1) y0 y1 y2 y3 y4 y5)) ∧ (∀ y0 y1 y2, LeO (laws_FnExactFirstReadings.j2 k y0 y1 y2) (laws_FnExactFirstReadings.j2 (k + 1) y0 y1 y2))
  | 0 => ⟨fun _ _ _ _ _ _ _ _ _ r h => by simp [laws_FnExactFirstReadings.j0] at h, fun _ _ _ _ _ _ r h => by simp [laws_FnExactFirstReadings.j1] at h, fun _ _ _ r h => by simp [laws_FnExactFirstReadings.j2] at h⟩
  | k + 1 => by
    obtain ⟨ih0, ih1, ih2⟩ := laws_FnExactFirstReadings.mono_l k
    refine ⟨?_, ?_, ?_⟩
    · intro y0 y1 y2 y3 y4 y5 y6 y7 y8
      unfold laws_FnExactFirstReadings.j0
      repeat' first
      | (with_reducible exact ih0 _ _ _ _ _ _ _ _ _)
      | (with_reducible exact ih1 _ _ _ _ _ _)
      | (with_reducible exact ih2 _ _ _)
      | (with_reducible exact impl_FirstReadings.mono _ _ _)
      | (with_reducible exact laws_eqIntS.mono _ _ _)
      | (with_reducible exact laws_eqStringS.mono _ _ _)
      | (with_reducible exact laws_heldStringS.mono _ _ _)
      | (with_reducible exact laws_markIntS.mono _ _ _)
      | (with_reducible exact laws_markStringS.mono _ _ _)
      | (with_reducible exact laws_toIntS.mono _ _)
      | (with_reducible exact spec_FirstReadings.mono _ _ _)
      | (with_reducible exact LeO.refl _)
      | (with_reducible exact LeO.none _)
      | (with_reducible refine LeO.ite ?_ ?_)
      | (with_reducible refine LeO.bind ?_ (fun _ => ?_))
      | exact ih0 _ _ _ _ _ _ _ _ _
      | exact ih1 _ _ _ _ _ _
      | exact ih2 _ _ _
      | exact impl_FirstReadings.mono _ _ _
      | exact laws_eqIntS.mono _ _ _
      | exact laws_eqStringS.mono _ _ _
      | exact laws_heldStringS.mono _ _ _
      | exact laws_markIntS.mono _ _ _
      | exact laws_markStringS.mono _ _ _
      | exact laws_toIntS.mono _ _
      | exact spec_FirstReadings.mono _ _ _
      | exact LeO.none _
      | refine LeO.ite ?_ ?_
      | refine LeO.bind ?_ (fun _ => ?_)
    · intro y0 y1 y2 y3 y4 y5
      unfold laws_FnExactFirstReadings.j1
      repeat' first
      | (with_reducible exact ih0 _ _ _ _ _ _ _ _ _)
      | (with_reducible exact ih1 _ _ _ _ _ _)
      | (with_reducible exact ih2 _ _ _)
      | (with_reducible exact impl_FirstReadings.mono _ _ _)
      | (with_reducible exact laws_eqIntS.mono _ _ _)
      | (with_reducible exact laws_eqStringS.mono _ _ _)
      | (with_reducible exact laws_heldStringS.mono _ _ _)
      | (with_reducible exact laws_markIntS.mono _ _ _)
      | (with_reducible exact laws_markStringS.mono _ _ _)
      | (with_reducible exact laws_toIntS.mono _ _)
      | (with_reducible exact spec_FirstReadings.mono _ _ _)
      | (with_reducible exact LeO.refl _)
      | (with_reducible exact LeO.none _)
      | (with_reducible refine LeO.ite ?_ ?_)
      | (with_reducible refine LeO.bind ?_ (fun _ => ?_))
      | exact ih0 _ _ _ _ _ _ _ _ _
      | exact ih1 _ _ _ _ _ _
      | exact ih2 _ _ _
      | exact impl_FirstReadings.mono _ _ _
      | exact laws_eqIntS.mono _ _ _
      | exact laws_eqStringS.mono _ _ _
      | exact laws_heldStringS.mono _ _ _
      | exact laws_markIntS.mono _ _ _
      | exact laws_markStringS.mono _ _ _
      | exact laws_toIntS.mono _ _
      | exact spec_FirstReadings.mono _ _ _
      | exact LeO.none _
      | refine LeO.ite ?_ ?_
      | refine LeO.bind ?_ (fun _ => ?_)
    · intro y0 y1 y2
      unfold laws_FnExactFirstReadings.j2
      repeat' first
      | (with_reducible exact ih0 _ _ _ _ _ _ _ _ _)
      | (with_reducible exact ih1 _ _ _ _ _ _)
      | (with_reducible exact ih2 _ _ _)
      | (with_reducible exact impl_FirstReadings.mono _ _ _)
      | (with_reducible exact laws_eqIntS.mono _ _ _)
      | (with_reducible exact laws_eqStringS.mono _ _ _)
      | (with_reducible exact laws_heldStringS.mono _ _ _)
      | (with_reducible exact laws_markIntS.mono _ _ _)
      | (with_reducible exact laws_markStringS.mono _ _ _)
      | (with_reducible exact laws_toIntS.mono _ _)
      | (with_reducible exact spec_FirstReadings.mono _ _ _)
      | (with_reducible exact LeO.refl _)
      | (with_reducible exact LeO.none _)
      | (with_reducible refine LeO.ite ?_ ?_)
      | (with_reducible refine LeO.bind ?_ (fun _ => ?_))
      | exact ih0 _ _ _ _ _ _ _ _ _
      | exact ih1 _ _ _ _ _ _
      | exact ih2 _ _ _
      | exact impl_FirstReadings.mono _ _ _
      | exact laws_eqIntS.mono _ _ _
      | exact laws_eqStringS.mono _ _ _
      | exact laws_heldStringS.mono _ _ _
      | exact laws_markIntS.mono _ _ _
      | exact laws_markStringS.mono _ _ _
      | exact laws_toIntS.mono _ _
      | exact spec_FirstReadings.mono _ _ _
      | exact LeO.none _
      | refine LeO.ite ?_ ?_
      | refine LeO.bind ?_ (fun _ => ?_)
theorem laws_FnExactFirstReadings.mono : ∀ a0 a1 k, LeO (laws_FnExactFirstReadings.f k a0 a1) (laws_FnExactFirstReadings.f (k + 1) a0 a1) := by
  intro a0 a1 k
  obtain ⟨ih0, ih1, ih2⟩ := laws_FnExactFirstReadings.mono_l k
  unfold laws_FnExactFirstReadings.f
  repeat' first
      | (with_reducible exact ih0 _ _ _ _ _ _ _ _ _)
      | (with_reducible exact ih1 _ _ _ _ _ _)
      | (with_reducible exact ih2 _ _ _)
      | (with_reducible exact impl_FirstReadings.mono _ _ _)
      | (with_reducible exact laws_eqIntS.mono _ _ _)
      | (with_reducible exact laws_eqStringS.mono _ _ _)
      | (with_reducible exact laws_heldStringS.mono _ _ _)
      | (with_reducible exact laws_markIntS.mono _ _ _)
      | (with_reducible exact laws_markStringS.mono _ _ _)
      | (with_reducible exact laws_toIntS.mono _ _)
      | (with_reducible exact spec_FirstReadings.mono _ _ _)
      | (with_reducible exact LeO.refl _)
      | (with_reducible exact LeO.none _)
      | (with_reducible refine LeO.ite ?_ ?_)
      | (with_reducible refine LeO.bind ?_ (fun _ => ?_))
      | exact ih0 _ _ _ _ _ _ _ _ _
      | exact ih1 _ _ _ _ _ _
      | exact ih2 _ _ _
      | exact impl_FirstReadings.mono _ _ _
      | exact laws_eqIntS.mono _ _ _
      | exact laws_eqStringS.mono _ _ _
      | exact laws_heldStringS.mono _ _ _
      | exact laws_markIntS.mono _ _ _
      | exact laws_markStringS.mono _ _ _
      | exact laws_toIntS.mono _ _
      | exact spec_FirstReadings.mono _ _ _
      | exact LeO.none _
      | refine LeO.ite ?_ ?_
      | refine LeO.bind ?_ (fun _ => ?_)
set_option maxHeartbeats 8000000 in
set_option maxRecDepth 100000 in
theorem laws_FnExactFirstReadings.calls (k : Nat) (A0 : Option Addr) (c0 : Nat) (l0 : List Int) (A1 : Option Addr) (c1 : Nat) (l1 : List Int) (r : Bool) (w : World) (hr0 : Kd.C (Kd.int .i64) w A0 l0.length l0) (hc0 : l0.length ≤ c0) (hr1 : Kd.C (Kd.int .i64) w A1 l1.length l1) (hc1 : l1.length ≤ c1) (h : laws_FnExactFirstReadings.f k l0 l1 = some r) :
    Calls Try.prog 9 #[.slice A0 l0.length c0, .slice A1 l1.length c1] w fun e w' => e = .returned (.bool r) ∧ Below w.heap.size w w' := by
  have HR0 := Aside0.mk hr0
  have HC0 := Aside0.mk hc0
  clear hr0 hc0
  have HR1 := Aside0.mk hr1
  have HC1 := Aside0.mk hc1
  clear hr1 hc1
  have HB := Aside0.mk (Below.refl w.heap.size w)
  have H : (if (l0.length : Int) > 1048576 then (some true) else (if (l1.length : Int) > 1048576 then (some true) else ((laws_toIntS.f k l0).bind fun t158 => ((laws_toIntS.f k l1).bind fun t161 => ((spec_FirstReadings.f k t158 t161).bind fun bt164 => ((laws_toIntS.f k l0).bind fun t168 => ((laws_toIntS.f k l1).bind fun t171 => ((impl_FirstReadings.f k t168 t171).bind fun bt174 => ((laws_eqStringS.f k bt174.1 bt164.1).bind fun t178 => (if t178 = true then (laws_FnExactFirstReadings.j0 k l0 l1 bt164.1 bt164.2 t168 t171 bt174.1 bt174.2 (bt174.2 != bt164.2)) else (laws_FnExactFirstReadings.j0 k l0 l1 bt164.1 bt164.2 t168 t171 bt174.1 bt174.2 true))))))))))) = some r := h
  clear h
  by_cases c3 : (l0.length : Int) > 1048576
  · rw [if_pos c3] at H
    have c3b0 : decide (1048576 < (l0.length : Int)) = true := decide_eq_true c3
    have c3b1 : decide (1048576 < l0.length) = true := decide_eq_true (by omega)
    clear c3
    obtain rfl := Option.some.inj H
    go_enter Try.func9, Try.ntmps9
    go_wp2
    go_ret
    exact ⟨by first | rfl | (simp [errW_none, errW_some] <;> rfl) | (simp [*, errW_none, errW_some] <;> rfl), by repeat (first | (with_reducible first | exact HB.out | apply below_alloc | apply pw_below_drewN | apply below_drew1) | exact HB.out)⟩
  · rw [if_neg c3] at H
    have c3b0 : decide (1048576 < (l0.length : Int)) = false := decide_eq_false c3
    have c3b1 : decide (1048576 < l0.length) = false := decide_eq_false (by omega)
    clear c3
    by_cases c4 : (l1.length : Int) > 1048576
    · rw [if_pos c4] at H
      have c4b0 : decide (1048576 < (l1.length : Int)) = true := decide_eq_true c4
      have c4b1 : decide (1048576 < l1.length) = true := decide_eq_true (by omega)
      clear c4
      obtain rfl := Option.some.inj H
      go_enter Try.func9, Try.ntmps9
      go_wp2
      go_ret
      exact ⟨by first | rfl | (simp [errW_none, errW_some] <;> rfl) | (simp [*, errW_none, errW_some] <;> rfl), by repeat (first | (with_reducible first | exact HB.out | apply below_alloc | apply pw_below_drewN | apply below_drew1) | exact HB.out)⟩
    · rw [if_neg c4] at H
      have c4b0 : decide (1048576 < (l1.length : Int)) = false := decide_eq_false c4
      have c4b1 : decide (1048576 < l1.length) = false := decide_eq_false (by omega)
      clear c4
      replace H := Option.bind_eq_some_iff.mp H
      obtain ⟨t158, A50, H⟩ := H
      replace H : ((laws_toIntS.f k l1).bind fun t161 => ((spec_FirstReadings.f k t158 t161).bind fun bt164 => ((laws_toIntS.f k l0).bind fun t168 => ((laws_toIntS.f k l1).bind fun t171 => ((impl_FirstReadings.f k t168 t171).bind fun bt174 => ((laws_eqStringS.f k bt174.1 bt164.1).bind fun t178 => (if t178 = true then (laws_FnExactFirstReadings.j0 k l0 l1 bt164.1 bt164.2 t168 t171 bt174.1 bt174.2 (bt174.2 != bt164.2)) else (laws_FnExactFirstReadings.j0 k l0 l1 bt164.1 bt164.2 t168 t171 bt174.1 bt174.2 true)))))))) = some r := H
      have A5 := Aside0.mk A50
      clear A50
      replace H := Option.bind_eq_some_iff.mp H
      obtain ⟨t161, A60, H⟩ := H
      replace H : ((spec_FirstReadings.f k t158 t161).bind fun bt164 => ((laws_toIntS.f k l0).bind fun t168 => ((laws_toIntS.f k l1).bind fun t171 => ((impl_FirstReadings.f k t168 t171).bind fun bt174 => ((laws_eqStringS.f k bt174.1 bt164.1).bind fun t178 => (if t178 = true then (laws_FnExactFirstReadings.j0 k l0 l1 bt164.1 bt164.2 t168 t171 bt174.1 bt174.2 (bt174.2 != bt164.2)) else (laws_FnExactFirstReadings.j0 k l0 l1 bt164.1 bt164.2 t168 t171 bt174.1 bt174.2 true))))))) = some r := H
      have A6 := Aside0.mk A60
      clear A60
      replace H := Option.bind_eq_some_iff.mp H
      obtain ⟨⟨t164, t165⟩, A70, H⟩ := H
      replace H : ((laws_toIntS.f k l0).bind fun t168 => ((laws_toIntS.f k l1).bind fun t171 => ((impl_FirstReadings.f k t168 t171).bind fun bt174 => ((laws_eqStringS.f k bt174.1 t164).bind fun t178 => (if t178 = true then (laws_FnExactFirstReadings.j0 k l0 l1 t164 t165 t168 t171 bt174.1 bt174.2 (bt174.2 != t165)) else (laws_FnExactFirstReadings.j0 k l0 l1 t164 t165 t168 t171 bt174.1 bt174.2 true)))))) = some r := H
      have A7 := Aside0.mk A70
      clear A70
      replace H := Option.bind_eq_some_iff.mp H
      obtain ⟨t168, A80, H⟩ := H
      replace H : ((laws_toIntS.f k l1).bind fun t171 => ((impl_FirstReadings.f k t168 t171).bind fun bt174 => ((laws_eqStringS.f k bt174.1 t164).bind fun t178 => (if t178 = true then (laws_FnExactFirstReadings.j0 k l0 l1 t164 t165 t168 t171 bt174.1 bt174.2 (bt174.2 != t165)) else (laws_FnExactFirstReadings.j0 k l0 l1 t164 t165 t168 t171 bt174.1 bt174.2 true))))) = some r := H
      have A8 := Aside0.mk A80
      clear A80
      replace H := Option.bind_eq_some_iff.mp H
      obtain ⟨t171, A90, H⟩ := H
      replace H : ((impl_FirstReadings.f k t168 t171).bind fun bt174 => ((laws_eqStringS.f k bt174.1 t164).bind fun t178 => (if t178 = true then (laws_FnExactFirstReadings.j0 k l0 l1 t164 t165 t168 t171 bt174.1 bt174.2 (bt174.2 != t165)) else (laws_FnExactFirstReadings.j0 k l0 l1 t164 t165 t168 t171 bt174.1 bt174.2 true)))) = some r := H
      have A9 := Aside0.mk A90
      clear A90
      replace H := Option.bind_eq_some_iff.mp H
      obtain ⟨⟨t174, t175⟩, A100, H⟩ := H
      replace H : ((laws_eqStringS.f k t174 t164).bind fun t178 => (if t178 = true then (laws_FnExactFirstReadings.j0 k l0 l1 t164 t165 t168 t171 t174 t175 (t175 != t165)) else (laws_FnExactFirstReadings.j0 k l0 l1 t164 t165 t168 t171 t174 t175 true))) = some r := H
      have A10 := Aside0.mk A100
      clear A100
      have HC11 := Aside0.mk H
      clear H
      go_enter Try.func9, Try.ntmps9
      go_upto_region 9 with (first | ((with_reducible refine gate_callee (f := 13) rfl ?_); refine goesL_ (some 24) rfl rfl Try.func13 (by kernel_rfl) rfl #[.slice A0 l0.length c0] rfl (by (try simp only [List.map_toArray, List.map_cons, List.map_nil]); first | done | rfl | (simp only [List.length_drop, List.length_take]; rfl)) ?_; (with_reducible refine (laws_toIntS.calls k _ _ l0 t158 _ ?side1 ?side2 A5.out).mono ?_); (case side1 => repeat (first | exact HR0.out | (with_reducible refine Kd.C_alloc ?_ _) | (with_reducible refine Kd.C_drewN ?_ _) | (with_reducible refine Kd.C_drew ?_))); (case side2 => exact HC0.out); rintro e w12 ⟨v159, rfl, ho0, hb⟩; replace ho0 := KRW.of ho0; refine ⟨_, rfl, ?_⟩; have n0_ := Aside0.mk (KRW.R_lower ho0 (below_size (by repeat (first | (with_reducible first | exact HB.out | apply below_alloc | apply pw_below_drewN | apply below_drew1) | exact HB.out)))); have n1_ := Aside0.mk (below_step (by repeat (first | (with_reducible first | exact HB.out | apply below_alloc | apply pw_below_drewN | apply below_drew1) | exact HB.out)) hb); clear HB; have HO160 := n0_; have HB := n1_; clear n0_ n1_; (try clear hb); (try clear hb2); (try clear hk); (try clear hi); (try clear ho0)) | ((with_reducible refine gate_callee (f := 13) rfl ?_); refine goesL_ (some 26) rfl rfl Try.func13 (by kernel_rfl) rfl #[.slice A1 l1.length c1] rfl (by (try simp only [List.map_toArray, List.map_cons, List.map_nil]); first | done | rfl | (simp only [List.length_drop, List.length_take]; rfl)) ?_; (with_reducible refine (laws_toIntS.calls k _ _ l1 t161 _ ?side1 ?side2 A6.out).mono ?_); (case side1 => repeat (first | exact (Kd.C_below HR1.out HB.out) | (with_reducible refine Kd.C_alloc ?_ _) | (with_reducible refine Kd.C_drewN ?_ _) | (with_reducible refine Kd.C_drew ?_))); (case side2 => exact HC1.out); rintro e w13 ⟨v162, rfl, ho0, hb⟩; replace ho0 := KRW.of ho0; refine ⟨_, rfl, ?_⟩; have n0_ := Aside0.mk (KRW.R_elder' (by (with_reducible repeat (first | apply KRW.R_alloc | apply KRW.R_drewN | apply KRW.R_drew)); exact HO160.out) (KRW.R_base ho0) hb); have n1_ := Aside0.mk (KRW.R_lower (KRW.R_new' ho0 (KRW.R_lt (by (with_reducible repeat (first | apply KRW.R_alloc | apply KRW.R_drewN | apply KRW.R_drew)); exact HO160.out))) (below_size (by repeat (first | (with_reducible first | exact HB.out | apply below_alloc | apply pw_below_drewN | apply below_drew1) | exact HB.out)))); have n2_ := Aside0.mk (below_step (by repeat (first | (with_reducible first | exact HB.out | apply below_alloc | apply pw_below_drewN | apply below_drew1) | exact HB.out)) hb); clear HO160; clear HB; have HO160 := n0_; have HO163 := n1_; have HB := n2_; clear n0_ n1_ n2_; (try clear hb); (try clear hb2); (try clear hk); (try clear hi); (try clear ho0); obtain ⟨Ao14, co14, eo14⟩ := KRW.R_slice HO160.out; subst eo14; obtain ⟨Ao15, co15, eo15⟩ := KRW.R_slice HO163.out; subst eo15) | ((with_reducible refine gate_callee (f := 31) rfl ?_); refine goesL_ (some 27) rfl rfl Try.func31 (by kernel_rfl) rfl #[.slice Ao14 t158.length co14, .slice Ao15 t161.length co15] rfl (by (try simp only [List.map_toArray, List.map_cons, List.map_nil]); first | done | rfl | (simp only [List.length_drop, List.length_take]; rfl)) ?_; (with_reducible refine (spec_FirstReadings.calls k _ _ t158 _ _ t161 t164 t165 _ ?side1 ?side2 ?side3 ?side4 A7.out).mono ?_); (case side1 => repeat (first | exact (KRW.R_reads' HO160.out).2.2 | (with_reducible refine Kd.C_alloc ?_ _) | (with_reducible refine Kd.C_drewN ?_ _) | (with_reducible refine Kd.C_drew ?_))); (case side2 => exact (KRW.R_reads' HO160.out).2.1); (case side3 => repeat (first | exact (KRW.R_reads' HO163.out).2.2 | (with_reducible refine Kd.C_alloc ?_ _) | (with_reducible refine Kd.C_drewN ?_ _) | (with_reducible refine Kd.C_drew ?_))); (case side4 => exact (KRW.R_reads' HO163.out).2.1); rintro e w16 ⟨v166, rfl, ho0, hb⟩; replace ho0 := KRW.of ho0; refine ⟨_, rfl, ?_⟩; have n0_ := Aside0.mk (KRW.R_below (by (with_reducible repeat (first | apply KRW.R_alloc | apply KRW.R_drewN | apply KRW.R_drew)); exact HO160.out) hb); have n1_ := Aside0.mk (KRW.R_below (by (with_reducible repeat (first | apply KRW.R_alloc | apply KRW.R_drewN | apply KRW.R_drew)); exact HO163.out) hb); have n2_ := Aside0.mk (KRW.R_lower ho0 (below_size (by repeat (first | (with_reducible first | exact HB.out | apply below_alloc | apply pw_below_drewN | apply below_drew1) | exact HB.out)))); have n3_ := Aside0.mk (below_step (by repeat (first | (with_reducible first | exact HB.out | apply below_alloc | apply pw_below_drewN | apply below_drew1) | exact HB.out)) hb); clear HO160; clear HO163; clear HB; have HO160 := n0_; have HO163 := n1_; have HO167 := n2_; have HB := n3_; clear n0_ n1_ n2_ n3_; (try clear hb); (try clear hb2); (try clear hk); (try clear hi); (try clear ho0)) | ((with_reducible refine gate_callee (f := 13) rfl ?_); refine goesL_ (some 31) rfl rfl Try.func13 (by kernel_rfl) rfl #[.slice A0 l0.length c0] rfl (by (try simp only [List.map_toArray, List.map_cons, List.map_nil]); first | done | rfl | (simp only [List.length_drop, List.length_take]; rfl)) ?_; (with_reducible refine (laws_toIntS.calls k _ _ l0 t168 _ ?side1 ?side2 A8.out).mono ?_); (case side1 => repeat (first | exact (Kd.C_below HR0.out HB.out) | (with_reducible refine Kd.C_alloc ?_ _) | (with_reducible refine Kd.C_drewN ?_ _) | (with_reducible refine Kd.C_drew ?_))); (case side2 => exact HC0.out); rintro e w17 ⟨v169, rfl, ho0, hb⟩; replace ho0 := KRW.of ho0; refine ⟨_, rfl, ?_⟩; have n0_ := Aside0.mk (KRW.R_elder' (by (with_reducible repeat (first | apply KRW.R_alloc | apply KRW.R_drewN | apply KRW.R_drew)); exact HO160.out) (KRW.R_base ho0) hb); have n1_ := Aside0.mk (KRW.R_elder' (by (with_reducible repeat (first | apply KRW.R_alloc | apply KRW.R_drewN | apply KRW.R_drew)); exact HO163.out) (KRW.R_base ho0) hb); have n2_ := Aside0.mk (KRW.R_below (by (with_reducible repeat (first | apply KRW.R_alloc | apply KRW.R_drewN | apply KRW.R_drew)); exact HO167.out) hb); have n3_ := Aside0.mk (KRW.R_lower (KRW.R_new' (KRW.R_new' ho0 (KRW.R_lt (by (with_reducible repeat (first | apply KRW.R_alloc | apply KRW.R_drewN | apply KRW.R_drew)); exact HO160.out))) (KRW.R_lt (by (with_reducible repeat (first | apply KRW.R_alloc | apply KRW.R_drewN | apply KRW.R_drew)); exact HO163.out))) (below_size (by repeat (first | (with_reducible first | exact HB.out | apply below_alloc | apply pw_below_drewN | apply below_drew1) | exact HB.out)))); have n4_ := Aside0.mk (below_step (by repeat (first | (with_reducible first | exact HB.out | apply below_alloc | apply pw_below_drewN | apply below_drew1) | exact HB.out)) hb); clear HO160; clear HO163; clear HO167; clear HB; have HO160 := n0_; have HO163 := n1_; have HO167 := n2_; have HO170 := n3_; have HB := n4_; clear n0_ n1_ n2_ n3_ n4_; (try clear hb); (try clear hb2); (try clear hk); (try clear hi); (try clear ho0)) | ((with_reducible refine gate_callee (f := 13) rfl ?_); refine goesL_ (some 33) rfl rfl Try.func13 (by kernel_rfl) rfl #[.slice A1 l1.length c1] rfl (by (try simp only [List.map_toArray, List.map_cons, List.map_nil]); first | done | rfl | (simp only [List.length_drop, List.length_take]; rfl)) ?_; (with_reducible refine (laws_toIntS.calls k _ _ l1 t171 _ ?side1 ?side2 A9.out).mono ?_); (case side1 => repeat (first | exact (Kd.C_below HR1.out HB.out) | (with_reducible refine Kd.C_alloc ?_ _) | (with_reducible refine Kd.C_drewN ?_ _) | (with_reducible refine Kd.C_drew ?_))); (case side2 => exact HC1.out); rintro e w18 ⟨v172, rfl, ho0, hb⟩; replace ho0 := KRW.of ho0; refine ⟨_, rfl, ?_⟩; have n0_ := Aside0.mk (KRW.R_elder' (by (with_reducible repeat (first | apply KRW.R_alloc | apply KRW.R_drewN | apply KRW.R_drew)); exact HO160.out) (KRW.R_base ho0) hb); have n1_ := Aside0.mk (KRW.R_elder' (by (with_reducible repeat (first | apply KRW.R_alloc | apply KRW.R_drewN | apply KRW.R_drew)); exact HO163.out) (KRW.R_base ho0) hb); have n2_ := Aside0.mk (KRW.R_below (by (with_reducible repeat (first | apply KRW.R_alloc | apply KRW.R_drewN | apply KRW.R_drew)); exact HO167.out) hb); have n3_ := Aside0.mk (KRW.R_elder' (by (with_reducible repeat (first | apply KRW.R_alloc | apply KRW.R_drewN | apply KRW.R_drew)); exact HO170.out) (KRW.R_base ho0) hb); have n4_ := Aside0.mk (KRW.R_lower (KRW.R_new' (KRW.R_new' (KRW.R_new' ho0 (KRW.R_lt (by (with_reducible repeat (first | apply KRW.R_alloc | apply KRW.R_drewN | apply KRW.R_drew)); exact HO160.out))) (KRW.R_lt (by (with_reducible repeat (first | apply KRW.R_alloc | apply KRW.R_drewN | apply KRW.R_drew)); exact HO163.out))) (KRW.R_lt (by (with_reducible repeat (first | apply KRW.R_alloc | apply KRW.R_drewN | apply KRW.R_drew)); exact HO170.out))) (below_size (by repeat (first | (with_reducible first | exact HB.out | apply below_alloc | apply pw_below_drewN | apply below_drew1) | exact HB.out)))); have n5_ := Aside0.mk (below_step (by repeat (first | (with_reducible first | exact HB.out | apply below_alloc | apply pw_below_drewN | apply below_drew1) | exact HB.out)) hb); clear HO160; clear HO163; clear HO167; clear HO170; clear HB; have HO160 := n0_; have HO163 := n1_; have HO167 := n2_; have HO170 := n3_; have HO173 := n4_; have HB := n5_; clear n0_ n1_ n2_ n3_ n4_ n5_; (try clear hb); (try clear hb2); (try clear hk); (try clear hi); (try clear ho0); obtain ⟨Ao19, co19, eo19⟩ := KRW.R_slice HO170.out; subst eo19; obtain ⟨Ao20, co20, eo20⟩ := KRW.R_slice HO173.out; subst eo20) | ((with_reducible refine gate_callee (f := 32) rfl ?_); refine goesL_ (some 37) rfl rfl Try.func32 (by kernel_rfl) rfl #[.slice Ao19 t168.length co19, .slice Ao20 t171.length co20] rfl (by (try simp only [List.map_toArray, List.map_cons, List.map_nil]); first | done | rfl | (simp only [List.length_drop, List.length_take]; rfl)) ?_; (with_reducible refine (impl_FirstReadings.calls k _ _ t168 _ _ t171 t174 t175 _ ?side1 ?side2 ?side3 ?side4 A10.out).mono ?_); (case side1 => repeat (first | exact (KRW.R_reads' HO170.out).2.2 | (with_reducible refine Kd.C_alloc ?_ _) | (with_reducible refine Kd.C_drewN ?_ _) | (with_reducible refine Kd.C_drew ?_))); (case side2 => exact (KRW.R_reads' HO170.out).2.1); (case side3 => repeat (first | exact (KRW.R_reads' HO173.out).2.2 | (with_reducible refine Kd.C_alloc ?_ _) | (with_reducible refine Kd.C_drewN ?_ _) | (with_reducible refine Kd.C_drew ?_))); (case side4 => exact (KRW.R_reads' HO173.out).2.1); rintro e w21 ⟨v176, v176c, rfl, hcut_, ho0, hb⟩; replace ho0 := KRW.cut hcut_ ho0; clear hcut_; refine ⟨_, rfl, ?_⟩; have n0_ := Aside0.mk (KRW.R_below (by (with_reducible repeat (first | apply KRW.R_alloc | apply KRW.R_drewN | apply KRW.R_drew)); exact HO160.out) hb); have n1_ := Aside0.mk (KRW.R_below (by (with_reducible repeat (first | apply KRW.R_alloc | apply KRW.R_drewN | apply KRW.R_drew)); exact HO163.out) hb); have n2_ := Aside0.mk (KRW.R_elder' (by (with_reducible repeat (first | apply KRW.R_alloc | apply KRW.R_drewN | apply KRW.R_drew)); exact HO167.out) (KRW.R_base ho0) hb); have n3_ := Aside0.mk (KRW.R_below (by (with_reducible repeat (first | apply KRW.R_alloc | apply KRW.R_drewN | apply KRW.R_drew)); exact HO170.out) hb); have n4_ := Aside0.mk (KRW.R_below (by (with_reducible repeat (first | apply KRW.R_alloc | apply KRW.R_drewN | apply KRW.R_drew)); exact HO173.out) hb); have n5_ := Aside0.mk (KRW.R_lower (KRW.R_new' ho0 (KRW.R_lt (by (with_reducible repeat (first | apply KRW.R_alloc | apply KRW.R_drewN | apply KRW.R_drew)); exact HO167.out))) (below_size (by repeat (first | (with_reducible first | exact HB.out | apply below_alloc | apply pw_below_drewN | apply below_drew1) | exact HB.out)))); have n6_ := Aside0.mk (below_step (by repeat (first | (with_reducible first | exact HB.out | apply below_alloc | apply pw_below_drewN | apply below_drew1) | exact HB.out)) hb); clear HO160; clear HO163; clear HO167; clear HO170; clear HO173; clear HB; have HO160 := n0_; have HO163 := n1_; have HO167 := n2_; have HO170 := n3_; have HO173 := n4_; have HO177 := n5_; have HB := n6_; clear n0_ n1_ n2_ n3_ n4_ n5_ n6_; (try clear hb); (try clear hb2); (try clear hk); (try clear hi); (try clear ho0)))
      (try simp only [Act.put, List.setIfInBounds_toArray, List.set_cons_zero, List.set_cons_succ])
      go_cut [48] (fun v48 wc => ∃ (kq : Nat) (x48_10 : Bool), v48 = .bool x48_10 ∧ Aside0 (laws_FnExactFirstReadings.j0 kq l0 l1 t164 t165 t168 t171 t174 t175 x48_10 = some r) ∧ Aside0 (kq ≤ k) ∧ Aside0 (KRW.R Kd.string 9 wc w.heap.size (fun k_ => some k_ ≠ (v176 : Value).ownBlock) v166 t164) ∧ Aside0 (KRW.R (Kd.int .i64) 3 wc w.heap.size (fun k_ => some k_ ≠ ((.slice Ao20 t171.length co20) : Value).ownBlock) (.slice Ao19 t168.length co19) t168) ∧ Aside0 (KRW.R (Kd.int .i64) 3 wc w.heap.size (fun k_ => some k_ ≠ ((.slice Ao19 t168.length co19) : Value).ownBlock) (.slice Ao20 t171.length co20) t171) ∧ Aside0 (KRW.R Kd.string 9 wc w.heap.size (fun k_ => some k_ ≠ (v166 : Value).ownBlock) v176 t174) ∧ Aside0 (Below w.heap.size w wc))
      case first =>
        have H := HC11.out
        clear HC11
        replace H := Option.bind_eq_some_iff.mp H
        obtain ⟨t178, A220, H⟩ := H
        replace H : (if t178 = true then (laws_FnExactFirstReadings.j0 k l0 l1 t164 t165 t168 t171 t174 t175 (t175 != t165)) else (laws_FnExactFirstReadings.j0 k l0 l1 t164 t165 t168 t171 t174 t175 true)) = some r := H
        have A22 := Aside0.mk A220
        clear A220
        by_cases c23 : t178 = true
        · subst c23
          have H1 : (laws_FnExactFirstReadings.j0 k l0 l1 t164 t165 t168 t171 t174 t175 (t175 != t165)) = some r := by rw [if_pos rfl] at H; exact H
          clear H
          have H := H1
          clear H1
          have H' := Aside0.mk H
          clear H
          obtain ⟨Ao24, co24, eo24⟩ := KRW.R_slice HO177.out
          subst eo24
          obtain ⟨Ao25, co25, eo25⟩ := KRW.R_slice HO167.out
          subst eo25
          go_wp2_with (first | ((with_reducible refine gate_callee (f := 26) rfl ?_); refine goesL_ (some 42) rfl rfl Try.func26 (by kernel_rfl) rfl #[.slice Ao24 t174.length co24, .slice Ao25 t164.length co25] rfl (by (try simp only [List.map_toArray, List.map_cons, List.map_nil]); first | done | rfl | (simp only [List.length_drop, List.length_take]; rfl)) ?_; (with_reducible refine (laws_eqStringS.calls k _ _ t174 _ _ t164 true _ ?side1 ?side2 ?side3 ?side4 A22.out).mono ?_); (case side1 => repeat (first | exact (KRW.R_reads' HO177.out).2.2 | (with_reducible refine Kd.C_alloc ?_ _) | (with_reducible refine Kd.C_drewN ?_ _) | (with_reducible refine Kd.C_drew ?_))); (case side2 => exact (KRW.R_reads' HO177.out).2.1); (case side3 => repeat (first | exact (KRW.R_reads' HO167.out).2.2 | (with_reducible refine Kd.C_alloc ?_ _) | (with_reducible refine Kd.C_drewN ?_ _) | (with_reducible refine Kd.C_drew ?_))); (case side4 => exact (KRW.R_reads' HO167.out).2.1); rintro e w' ⟨rfl, ⟨nd, rfl⟩⟩; refine ⟨_, rfl, ?_⟩))
          go_meet
          case rel => exact ⟨_, ((t175 != t165)), (by first | rfl | (simp; done) | (simp [*]; done)), H', ⟨by first | omega | exact Nat.le_refl _⟩, ⟨by (with_reducible repeat (first | apply KRW.R_alloc | apply KRW.R_drewN | apply KRW.R_drew)); exact KRW.R_mono HO167.out (fun _ hk => hk.2)⟩, ⟨by (with_reducible repeat (first | apply KRW.R_alloc | apply KRW.R_drewN | apply KRW.R_drew)); exact KRW.R_mono HO170.out (fun _ hk => hk.2)⟩, ⟨by (with_reducible repeat (first | apply KRW.R_alloc | apply KRW.R_drewN | apply KRW.R_drew)); exact KRW.R_mono HO173.out (fun _ hk => hk.2)⟩, ⟨by (with_reducible repeat (first | apply KRW.R_alloc | apply KRW.R_drewN | apply KRW.R_drew)); exact KRW.R_mono HO177.out (fun _ hk => hk.2)⟩, ⟨by repeat (first | (with_reducible first | exact HB.out | apply below_alloc | apply pw_below_drewN | apply below_drew1) | exact HB.out)⟩⟩
        · replace c23 := Bool.eq_false_iff.mpr c23
          subst c23
          have H1 : (laws_FnExactFirstReadings.j0 k l0 l1 t164 t165 t168 t171 t174 t175 true) = some r := by rw [if_neg (show ¬ (false = true) by decide)] at H; exact H
          clear H
          have H := H1
          clear H1
          have H' := Aside0.mk H
          clear H
          obtain ⟨Ao26, co26, eo26⟩ := KRW.R_slice HO177.out
          subst eo26
          obtain ⟨Ao27, co27, eo27⟩ := KRW.R_slice HO167.out
          subst eo27
          go_wp2_with (first | ((with_reducible refine gate_callee (f := 26) rfl ?_); refine goesL_ (some 42) rfl rfl Try.func26 (by kernel_rfl) rfl #[.slice Ao26 t174.length co26, .slice Ao27 t164.length co27] rfl (by (try simp only [List.map_toArray, List.map_cons, List.map_nil]); first | done | rfl | (simp only [List.length_drop, List.length_take]; rfl)) ?_; (with_reducible refine (laws_eqStringS.calls k _ _ t174 _ _ t164 false _ ?side1 ?side2 ?side3 ?side4 A22.out).mono ?_); (case side1 => repeat (first | exact (KRW.R_reads' HO177.out).2.2 | (with_reducible refine Kd.C_alloc ?_ _) | (with_reducible refine Kd.C_drewN ?_ _) | (with_reducible refine Kd.C_drew ?_))); (case side2 => exact (KRW.R_reads' HO177.out).2.1); (case side3 => repeat (first | exact (KRW.R_reads' HO167.out).2.2 | (with_reducible refine Kd.C_alloc ?_ _) | (with_reducible refine Kd.C_drewN ?_ _) | (with_reducible refine Kd.C_drew ?_))); (case side4 => exact (KRW.R_reads' HO167.out).2.1); rintro e w' ⟨rfl, ⟨nd, rfl⟩⟩; refine ⟨_, rfl, ?_⟩))
          go_meet
          case rel => exact ⟨_, (true), (by first | rfl | (simp; done) | (simp [*]; done)), H', ⟨by first | omega | exact Nat.le_refl _⟩, ⟨by (with_reducible repeat (first | apply KRW.R_alloc | apply KRW.R_drewN | apply KRW.R_drew)); exact KRW.R_mono HO167.out (fun _ hk => hk.2)⟩, ⟨by (with_reducible repeat (first | apply KRW.R_alloc | apply KRW.R_drewN | apply KRW.R_drew)); exact KRW.R_mono HO170.out (fun _ hk => hk.2)⟩, ⟨by (with_reducible repeat (first | apply KRW.R_alloc | apply KRW.R_drewN | apply KRW.R_drew)); exact KRW.R_mono HO173.out (fun _ hk => hk.2)⟩, ⟨by (with_reducible repeat (first | apply KRW.R_alloc | apply KRW.R_drewN | apply KRW.R_drew)); exact KRW.R_mono HO177.out (fun _ hk => hk.2)⟩, ⟨by repeat (first | (with_reducible first | exact HB.out | apply below_alloc | apply pw_below_drewN | apply below_drew1) | exact HB.out)⟩⟩
      case rest =>
        clear HC11
        try clear c1
        try clear c2
        try clear p2
        try clear c3
        try clear c3b0
        try clear c3b1
        try clear c4
        try clear c4b0
        try clear c4b1
        try clear c9
        try clear c13
        try clear c23
        try clear c26
        obtain ⟨kq, x48_10, rfl, HA, HJ10, HO_5, HO_7, HO_8, HO_9, HB⟩ := hcut
        cases kq with
        | zero => exact absurd HA.out (by simp [laws_FnExactFirstReadings.j0])
        | succ kj10 =>
          have H := HA.out
          clear HA
          simp only [laws_FnExactFirstReadings.j0] at H
          by_cases c28 : x48_10 = true
          · subst c28
            have H1 : (some false) = some r := by rw [if_pos rfl] at H; exact H
            clear H
            have H := H1
            clear H1
            obtain rfl := Option.some.inj H
            go_wp2
            go_ret
            exact ⟨by first | rfl | (simp [errW_none, errW_some] <;> rfl) | (simp [*, errW_none, errW_some] <;> rfl), by repeat (first | (with_reducible first | exact HB.out | apply below_alloc | apply pw_below_drewN | apply below_drew1) | exact HB.out)⟩
          · replace c28 := Bool.eq_false_iff.mpr c28
            subst c28
            have H1 : ((laws_toIntS.f kj10 l0).bind fun t179 => ((laws_eqIntS.f kj10 t168 t179).bind fun t182 => (if t182 = true then ((laws_toIntS.f kj10 l1).bind fun t183 => ((laws_eqIntS.f kj10 t171 t183).bind fun t186 => (if t186 = true then ((laws_markIntS.f kj10 t168 1).bind fun bt187 => ((laws_markIntS.f kj10 t171 bt187.1).bind fun bt189 => (if bt189.1 < 0 then (laws_FnExactFirstReadings.j1 kj10 l0 l1 t164 t165 t174 true) else ((laws_eqStringS.f kj10 t174 t164).bind fun t191 => (if t191 = true then (laws_FnExactFirstReadings.j1 kj10 l0 l1 t164 t165 t174 (t175 != t165)) else (laws_FnExactFirstReadings.j1 kj10 l0 l1 t164 t165 t174 true)))))) else (some false)))) else (some false)))) = some r := by rw [if_neg (show ¬ (false = true) by decide)] at H; exact H
            clear H
            have H := H1
            clear H1
            replace H := Option.bind_eq_some_iff.mp H
            obtain ⟨t179, A290, H⟩ := H
            replace H : ((laws_eqIntS.f kj10 t168 t179).bind fun t182 => (if t182 = true then ((laws_toIntS.f kj10 l1).bind fun t183 => ((laws_eqIntS.f kj10 t171 t183).bind fun t186 => (if t186 = true then ((laws_markIntS.f kj10 t168 1).bind fun bt187 => ((laws_markIntS.f kj10 t171 bt187.1).bind fun bt189 => (if bt189.1 < 0 then (laws_FnExactFirstReadings.j1 kj10 l0 l1 t164 t165 t174 true) else ((laws_eqStringS.f kj10 t174 t164).bind fun t191 => (if t191 = true then (laws_FnExactFirstReadings.j1 kj10 l0 l1 t164 t165 t174 (t175 != t165)) else (laws_FnExactFirstReadings.j1 kj10 l0 l1 t164 t165 t174 true)))))) else (some false)))) else (some false))) = some r := H
            have A29 := Aside0.mk A290
            clear A290
            replace H := Option.bind_eq_some_iff.mp H
            obtain ⟨t182, A300, H⟩ := H
            replace H : (if t182 = true then ((laws_toIntS.f kj10 l1).bind fun t183 => ((laws_eqIntS.f kj10 t171 t183).bind fun t186 => (if t186 = true then ((laws_markIntS.f kj10 t168 1).bind fun bt187 => ((laws_markIntS.f kj10 t171 bt187.1).bind fun bt189 => (if bt189.1 < 0 then (laws_FnExactFirstReadings.j1 kj10 l0 l1 t164 t165 t174 true) else ((laws_eqStringS.f kj10 t174 t164).bind fun t191 => (if t191 = true then (laws_FnExactFirstReadings.j1 kj10 l0 l1 t164 t165 t174 (t175 != t165)) else (laws_FnExactFirstReadings.j1 kj10 l0 l1 t164 t165 t174 true)))))) else (some false)))) else (some false)) = some r := H
            have A30 := Aside0.mk A300
            clear A300
            by_cases c31 : t182 = true
            · subst c31
              have H1 : ((laws_toIntS.f kj10 l1).bind fun t183 => ((laws_eqIntS.f kj10 t171 t183).bind fun t186 => (if t186 = true then ((laws_markIntS.f kj10 t168 1).bind fun bt187 => ((laws_markIntS.f kj10 t171 bt187.1).bind fun bt189 => (if bt189.1 < 0 then (laws_FnExactFirstReadings.j1 kj10 l0 l1 t164 t165 t174 true) else ((laws_eqStringS.f kj10 t174 t164).bind fun t191 => (if t191 = true then (laws_FnExactFirstReadings.j1 kj10 l0 l1 t164 t165 t174 (t175 != t165)) else (laws_FnExactFirstReadings.j1 kj10 l0 l1 t164 t165 t174 true)))))) else (some false)))) = some r := by rw [if_pos rfl] at H; exact H
              clear H
              have H := H1
              clear H1
              replace H := Option.bind_eq_some_iff.mp H
              obtain ⟨t183, A320, H⟩ := H
              replace H : ((laws_eqIntS.f kj10 t171 t183).bind fun t186 => (if t186 = true then ((laws_markIntS.f kj10 t168 1).bind fun bt187 => ((laws_markIntS.f kj10 t171 bt187.1).bind fun bt189 => (if bt189.1 < 0 then (laws_FnExactFirstReadings.j1 kj10 l0 l1 t164 t165 t174 true) else ((laws_eqStringS.f kj10 t174 t164).bind fun t191 => (if t191 = true then (laws_FnExactFirstReadings.j1 kj10 l0 l1 t164 t165 t174 (t175 != t165)) else (laws_FnExactFirstReadings.j1 kj10 l0 l1 t164 t165 t174 true)))))) else (some false))) = some r := H
              have A32 := Aside0.mk A320
              clear A320
              replace H := Option.bind_eq_some_iff.mp H
              obtain ⟨t186, A330, H⟩ := H
              replace H : (if t186 = true then ((laws_markIntS.f kj10 t168 1).bind fun bt187 => ((laws_markIntS.f kj10 t171 bt187.1).bind fun bt189 => (if bt189.1 < 0 then (laws_FnExactFirstReadings.j1 kj10 l0 l1 t164 t165 t174 true) else ((laws_eqStringS.f kj10 t174 t164).bind fun t191 => (if t191 = true then (laws_FnExactFirstReadings.j1 kj10 l0 l1 t164 t165 t174 (t175 != t165)) else (laws_FnExactFirstReadings.j1 kj10 l0 l1 t164 t165 t174 true)))))) else (some false)) = some r := H
              have A33 := Aside0.mk A330
              clear A330
              by_cases c34 : t186 = true
              · subst c34
                have H1 : ((laws_markIntS.f kj10 t168 1).bind fun bt187 => ((laws_markIntS.f kj10 t171 bt187.1).bind fun bt189 => (if bt189.1 < 0 then (laws_FnExactFirstReadings.j1 kj10 l0 l1 t164 t165 t174 true) else ((laws_eqStringS.f kj10 t174 t164).bind fun t191 => (if t191 = true then (laws_FnExactFirstReadings.j1 kj10 l0 l1 t164 t165 t174 (t175 != t165)) else (laws_FnExactFirstReadings.j1 kj10 l0 l1 t164 t165 t174 true)))))) = some r := by rw [if_pos rfl] at H; exact H
                clear H
                have H := H1
                clear H1
                replace H := Option.bind_eq_some_iff.mp H
                obtain ⟨⟨t187, t188⟩, A350, H⟩ := H
                replace H : ((laws_markIntS.f kj10 t171 t187).bind fun bt189 => (if bt189.1 < 0 then (laws_FnExactFirstReadings.j1 kj10 l0 l1 t164 t165 t174 true) else ((laws_eqStringS.f kj10 t174 t164).bind fun t191 => (if t191 = true then (laws_FnExactFirstReadings.j1 kj10 l0 l1 t164 t165 t174 (t175 != t165)) else (laws_FnExactFirstReadings.j1 kj10 l0 l1 t164 t165 t174 true))))) = some r := H
                have A35 := Aside0.mk A350
                clear A350
                replace H := Option.bind_eq_some_iff.mp H
                obtain ⟨⟨t189, t190⟩, A360, H⟩ := H
                replace H : (if t189 < 0 then (laws_FnExactFirstReadings.j1 kj10 l0 l1 t164 t165 t174 true) else ((laws_eqStringS.f kj10 t174 t164).bind fun t191 => (if t191 = true then (laws_FnExactFirstReadings.j1 kj10 l0 l1 t164 t165 t174 (t175 != t165)) else (laws_FnExactFirstReadings.j1 kj10 l0 l1 t164 t165 t174 true)))) = some r := H
                have A36 := Aside0.mk A360
                clear A360
                have HC37 := Aside0.mk H
                clear H
                go_upto_region 18 with (first | ((with_reducible refine gate_callee (f := 13) rfl ?_); refine goesL_ (some 51) rfl rfl Try.func13 (by kernel_rfl) rfl #[.slice A0 l0.length c0] rfl (by (try simp only [List.map_toArray, List.map_cons, List.map_nil]); first | done | rfl | (simp only [List.length_drop, List.length_take]; rfl)) ?_; (with_reducible refine (laws_toIntS.calls kj10 _ _ l0 t179 _ ?side1 ?side2 A29.out).mono ?_); (case side1 => repeat (first | exact (Kd.C_below HR0.out HB.out) | (with_reducible refine Kd.C_alloc ?_ _) | (with_reducible refine Kd.C_drewN ?_ _) | (with_reducible refine Kd.C_drew ?_))); (case side2 => exact HC0.out); rintro e w38 ⟨v180, rfl, ho0, hb⟩; replace ho0 := KRW.of ho0; refine ⟨_, rfl, ?_⟩; have n0_ := Aside0.mk (KRW.R_below (by (with_reducible repeat (first | apply KRW.R_alloc | apply KRW.R_drewN | apply KRW.R_drew)); exact HO_5.out) hb); have n1_ := Aside0.mk (KRW.R_elder' (by (with_reducible repeat (first | apply KRW.R_alloc | apply KRW.R_drewN | apply KRW.R_drew)); exact HO_7.out) (KRW.R_base ho0) hb); have n2_ := Aside0.mk (KRW.R_elder' (by (with_reducible repeat (first | apply KRW.R_alloc | apply KRW.R_drewN | apply KRW.R_drew)); exact HO_8.out) (KRW.R_base ho0) hb); have n3_ := Aside0.mk (KRW.R_below (by (with_reducible repeat (first | apply KRW.R_alloc | apply KRW.R_drewN | apply KRW.R_drew)); exact HO_9.out) hb); have n4_ := Aside0.mk (KRW.R_lower (KRW.R_new' (KRW.R_new' ho0 (KRW.R_lt (by (with_reducible repeat (first | apply KRW.R_alloc | apply KRW.R_drewN | apply KRW.R_drew)); exact HO_7.out))) (KRW.R_lt (by (with_reducible repeat (first | apply KRW.R_alloc | apply KRW.R_drewN | apply KRW.R_drew)); exact HO_8.out))) (below_size (by repeat (first | (with_reducible first | exact HB.out | apply below_alloc | apply pw_below_drewN | apply below_drew1) | exact HB.out)))); have n5_ := Aside0.mk (below_step (by repeat (first | (with_reducible first | exact HB.out | apply below_alloc | apply pw_below_drewN | apply below_drew1) | exact HB.out)) hb); clear HO_5; clear HO_7; clear HO_8; clear HO_9; clear HB; have HO_5 := n0_; have HO_7 := n1_; have HO_8 := n2_; have HO_9 := n3_; have HO181 := n4_; have HB := n5_; clear n0_ n1_ n2_ n3_ n4_ n5_; (try clear hb); (try clear hb2); (try clear hk); (try clear hi); (try clear ho0); obtain ⟨Ao39, co39, eo39⟩ := KRW.R_slice HO181.out; subst eo39) | ((with_reducible refine gate_callee (f := 15) rfl ?_); refine goesL_ (some 52) rfl rfl Try.func15 (by kernel_rfl) rfl #[.slice Ao19 t168.length co19, .slice Ao39 t179.length co39] rfl (by (try simp only [List.map_toArray, List.map_cons, List.map_nil]); first | done | rfl | (simp only [List.length_drop, List.length_take]; rfl)) ?_; (with_reducible refine (laws_eqIntS.calls kj10 _ _ t168 _ _ t179 true _ ?side1 ?side2 ?side3 ?side4 A30.out).mono ?_); (case side1 => repeat (first | exact (KRW.R_reads' HO_7.out).2.2 | (with_reducible refine Kd.C_alloc ?_ _) | (with_reducible refine Kd.C_drewN ?_ _) | (with_reducible refine Kd.C_drew ?_))); (case side2 => exact (KRW.R_reads' HO_7.out).2.1); (case side3 => repeat (first | exact (KRW.R_reads' HO181.out).2.2 | (with_reducible refine Kd.C_alloc ?_ _) | (with_reducible refine Kd.C_drewN ?_ _) | (with_reducible refine Kd.C_drew ?_))); (case side4 => exact (KRW.R_reads' HO181.out).2.1); rintro e w' ⟨rfl, ⟨nd, rfl⟩⟩; refine ⟨_, rfl, ?_⟩) | ((with_reducible refine gate_callee (f := 13) rfl ?_); refine goesL_ (some 56) rfl rfl Try.func13 (by kernel_rfl) rfl #[.slice A1 l1.length c1] rfl (by (try simp only [List.map_toArray, List.map_cons, List.map_nil]); first | done | rfl | (simp only [List.length_drop, List.length_take]; rfl)) ?_; (with_reducible refine (laws_toIntS.calls kj10 _ _ l1 t183 _ ?side1 ?side2 A32.out).mono ?_); (case side1 => repeat (first | exact (Kd.C_below HR1.out (by repeat (first | (with_reducible first | exact HB.out | apply below_alloc | apply pw_below_drewN | apply below_drew1) | exact HB.out))) | (with_reducible refine Kd.C_alloc ?_ _) | (with_reducible refine Kd.C_drewN ?_ _) | (with_reducible refine Kd.C_drew ?_))); (case side2 => exact HC1.out); rintro e w40 ⟨v184, rfl, ho0, hb⟩; replace ho0 := KRW.of ho0; refine ⟨_, rfl, ?_⟩; have n0_ := Aside0.mk (KRW.R_below (by (with_reducible repeat (first | apply KRW.R_alloc | apply KRW.R_drewN | apply KRW.R_drew)); exact HO_5.out) hb); have n1_ := Aside0.mk (KRW.R_elder' (by (with_reducible repeat (first | apply KRW.R_alloc | apply KRW.R_drewN | apply KRW.R_drew)); exact HO_7.out) (KRW.R_base ho0) hb); have n2_ := Aside0.mk (KRW.R_elder' (by (with_reducible repeat (first | apply KRW.R_alloc | apply KRW.R_drewN | apply KRW.R_drew)); exact HO_8.out) (KRW.R_base ho0) hb); have n3_ := Aside0.mk (KRW.R_below (by (with_reducible repeat (first | apply KRW.R_alloc | apply KRW.R_drewN | apply KRW.R_drew)); exact HO_9.out) hb); have n4_ := Aside0.mk (KRW.R_elder' (by (with_reducible repeat (first | apply KRW.R_alloc | apply KRW.R_drewN | apply KRW.R_drew)); exact HO181.out) (KRW.R_base ho0) hb); have n5_ := Aside0.mk (KRW.R_lower (KRW.R_new' (KRW.R_new' (KRW.R_new' ho0 (KRW.R_lt (by (with_reducible repeat (first | apply KRW.R_alloc | apply KRW.R_drewN | apply KRW.R_drew)); exact HO_7.out))) (KRW.R_lt (by (with_reducible repeat (first | apply KRW.R_alloc | apply KRW.R_drewN | apply KRW.R_drew)); exact HO_8.out))) (KRW.R_lt (by (with_reducible repeat (first | apply KRW.R_alloc | apply KRW.R_drewN | apply KRW.R_drew)); exact HO181.out))) (below_size (by repeat (first | (with_reducible first | exact HB.out | apply below_alloc | apply pw_below_drewN | apply below_drew1) | exact HB.out)))); have n6_ := Aside0.mk (below_step (by repeat (first | (with_reducible first | exact HB.out | apply below_alloc | apply pw_below_drewN | apply below_drew1) | exact HB.out)) hb); clear HO_5; clear HO_7; clear HO_8; clear HO_9; clear HO181; clear HB; have HO_5 := n0_; have HO_7 := n1_; have HO_8 := n2_; have HO_9 := n3_; have HO181 := n4_; have HO185 := n5_; have HB := n6_; clear n0_ n1_ n2_ n3_ n4_ n5_ n6_; (try clear hb); (try clear hb2); (try clear hk); (try clear hi); (try clear ho0); obtain ⟨Ao41, co41, eo41⟩ := KRW.R_slice HO185.out; subst eo41) | ((with_reducible refine gate_callee (f := 15) rfl ?_); refine goesL_ (some 57) rfl rfl Try.func15 (by kernel_rfl) rfl #[.slice Ao20 t171.length co20, .slice Ao41 t183.length co41] rfl (by (try simp only [List.map_toArray, List.map_cons, List.map_nil]); first | done | rfl | (simp only [List.length_drop, List.length_take]; rfl)) ?_; (with_reducible refine (laws_eqIntS.calls kj10 _ _ t171 _ _ t183 true _ ?side1 ?side2 ?side3 ?side4 A33.out).mono ?_); (case side1 => repeat (first | exact (KRW.R_reads' HO_8.out).2.2 | (with_reducible refine Kd.C_alloc ?_ _) | (with_reducible refine Kd.C_drewN ?_ _) | (with_reducible refine Kd.C_drew ?_))); (case side2 => exact (KRW.R_reads' HO_8.out).2.1); (case side3 => repeat (first | exact (KRW.R_reads' HO185.out).2.2 | (with_reducible refine Kd.C_alloc ?_ _) | (with_reducible refine Kd.C_drewN ?_ _) | (with_reducible refine Kd.C_drew ?_))); (case side4 => exact (KRW.R_reads' HO185.out).2.1); rintro e w' ⟨rfl, ⟨nd, rfl⟩⟩; refine ⟨_, rfl, ?_⟩) | ((with_reducible refine gate_callee (f := 18) rfl ?_); refine goesL_ (some 61) rfl rfl Try.func18 (by kernel_rfl) rfl #[.slice Ao19 t168.length co19, .int .i64 1] rfl (by (try simp only [List.map_toArray, List.map_cons, List.map_nil]); first | done | rfl | (simp only [List.length_drop, List.length_take]; rfl)) ?_; (with_reducible refine (laws_markIntS.calls kj10 (fun k_ => some k_ = (.slice Ao19 t168.length co19 : Value).ownBlock) (.slice Ao19 t168.length co19) t168 1 t187 t188 w _ ?side1 ?side2 A35.out).mono ?_); (case side1 => repeat (first | (with_reducible first | exact HB.out | apply below_alloc | apply pw_below_drewN | apply below_drew1) | exact HB.out)); (case side2 => exact KRW.R_tight rfl HO_7.out); rintro e w42 ⟨rfl, hy0, hb, hkp⟩; refine ⟨_, rfl, ?_⟩; have n0_ := Aside0.mk (KRW.R_mono (ok' := fun k_ => some k_ ≠ (v176 : Value).ownBlock) (KRW.R_keptB ((KRW.R_apart' HO_5.out (KRW.R_typed HO_7.out) (by decide))) hkp (fun k_ hk_ hs_ => (hk_.2) hs_)) (fun k_ hk_ => hk_.1.1)); have n1_ := Aside0.mk (KRW.R_reok rfl hy0 (fun k_ e_ => (KRW.R_fst HO_7.out) k_ e_)); have n2_ := Aside0.mk (KRW.R_mono (ok' := fun k_ => some k_ ≠ (.slice Ao19 t168.length co19 : Value).ownBlock ∧ some k_ ≠ (.slice Ao39 t179.length co39 : Value).ownBlock ∧ some k_ ≠ (.slice Ao41 t183.length co41 : Value).ownBlock) (KRW.R_keptB (HO_8.out) hkp (fun k_ hk_ hs_ => (hk_.1.1) hs_)) (fun k_ hk_ => ⟨hk_.1.1.1, hk_.1.1.2, hk_.1.2⟩)); have n3_ := Aside0.mk (KRW.R_mono (ok' := fun k_ => some k_ ≠ (v166 : Value).ownBlock) (KRW.R_keptB ((KRW.R_apart' HO_9.out (KRW.R_typed HO_7.out) (by decide))) hkp (fun k_ hk_ hs_ => (hk_.2) hs_)) (fun k_ hk_ => hk_.1.1)); have n4_ := Aside0.mk (KRW.R_mono (ok' := fun k_ => some k_ ≠ (.slice Ao19 t168.length co19 : Value).ownBlock ∧ some k_ ≠ (.slice Ao20 t171.length co20 : Value).ownBlock ∧ some k_ ≠ (.slice Ao41 t183.length co41 : Value).ownBlock) (KRW.R_keptB (HO181.out) hkp (fun k_ hk_ hs_ => (hk_.1.1.2) hs_)) (fun k_ hk_ => ⟨hk_.1.1.1.2, hk_.1.1.2, hk_.1.2⟩)); have n5_ := Aside0.mk (KRW.R_mono (ok' := fun k_ => some k_ ≠ (.slice Ao19 t168.length co19 : Value).ownBlock ∧ some k_ ≠ (.slice Ao20 t171.length co20 : Value).ownBlock ∧ some k_ ≠ (.slice Ao39 t179.length co39 : Value).ownBlock) (KRW.R_keptB (HO185.out) hkp (fun k_ hk_ hs_ => (hk_.1.1.2) hs_)) (fun k_ hk_ => ⟨hk_.1.1.1.2, hk_.1.1.2, hk_.1.2⟩)); have n6_ := Aside0.mk (hb); clear HO_5; clear HO_7; clear HO_8; clear HO_9; clear HO181; clear HO185; clear HB; have HO_5 := n0_; have HO_7 := n1_; have HO_8 := n2_; have HO_9 := n3_; have HO181 := n4_; have HO185 := n5_; have HB := n6_; clear n0_ n1_ n2_ n3_ n4_ n5_ n6_; (try clear hb); (try clear hkp); (try clear hy0)) | ((with_reducible refine gate_callee (f := 18) rfl ?_); refine goesL_ (some 64) rfl rfl Try.func18 (by kernel_rfl) rfl #[.slice Ao20 t171.length co20, .int .i64 t187] rfl (by (try simp only [List.map_toArray, List.map_cons, List.map_nil]); first | done | rfl | (simp only [List.length_drop, List.length_take]; rfl)) ?_; (with_reducible refine (laws_markIntS.calls kj10 (fun k_ => some k_ = (.slice Ao20 t171.length co20 : Value).ownBlock) (.slice Ao20 t171.length co20) t171 t187 t189 t190 w _ ?side1 ?side2 A36.out).mono ?_); (case side1 => repeat (first | (with_reducible first | exact HB.out | apply below_alloc | apply pw_below_drewN | apply below_drew1) | exact HB.out)); (case side2 => exact KRW.R_tight rfl HO_8.out); rintro e w43 ⟨rfl, hy0, hb, hkp⟩; refine ⟨_, rfl, ?_⟩; have n0_ := Aside0.mk (KRW.R_mono (ok' := fun k_ => some k_ ≠ (v176 : Value).ownBlock) (KRW.R_keptB ((KRW.R_apart' HO_5.out (KRW.R_typed HO_8.out) (by decide))) hkp (fun k_ hk_ hs_ => (hk_.2) hs_)) (fun k_ hk_ => hk_.1.1)); have n1_ := Aside0.mk (KRW.R_mono (ok' := fun k_ => some k_ ≠ (.slice Ao20 t171.length co20 : Value).ownBlock ∧ some k_ ≠ (.slice Ao39 t179.length co39 : Value).ownBlock ∧ some k_ ≠ (.slice Ao41 t183.length co41 : Value).ownBlock) (KRW.R_keptB (HO_7.out) hkp (fun k_ hk_ hs_ => (hk_.1.1) hs_)) (fun k_ hk_ => ⟨hk_.1.1.1, hk_.1.1.2, hk_.1.2⟩)); have n2_ := Aside0.mk (KRW.R_reok rfl hy0 (fun k_ e_ => (KRW.R_fst HO_8.out) k_ e_)); have n3_ := Aside0.mk (KRW.R_mono (ok' := fun k_ => some k_ ≠ (v166 : Value).ownBlock) (KRW.R_keptB ((KRW.R_apart' HO_9.out (KRW.R_typed HO_8.out) (by decide))) hkp (fun k_ hk_ hs_ => (hk_.2) hs_)) (fun k_ hk_ => hk_.1.1)); have n4_ := Aside0.mk (KRW.R_mono (ok' := fun k_ => some k_ ≠ (.slice Ao19 t168.length co19 : Value).ownBlock ∧ some k_ ≠ (.slice Ao20 t171.length co20 : Value).ownBlock ∧ some k_ ≠ (.slice Ao41 t183.length co41 : Value).ownBlock) (KRW.R_keptB (HO181.out) hkp (fun k_ hk_ hs_ => (hk_.2.1) hs_)) (fun k_ hk_ => ⟨hk_.1.1, hk_.1.2.1, hk_.1.2.2⟩)); have n5_ := Aside0.mk (KRW.R_mono (ok' := fun k_ => some k_ ≠ (.slice Ao19 t168.length co19 : Value).ownBlock ∧ some k_ ≠ (.slice Ao20 t171.length co20 : Value).ownBlock ∧ some k_ ≠ (.slice Ao39 t179.length co39 : Value).ownBlock) (KRW.R_keptB (HO185.out) hkp (fun k_ hk_ hs_ => (hk_.2.1) hs_)) (fun k_ hk_ => ⟨hk_.1.1, hk_.1.2.1, hk_.1.2.2⟩)); have n6_ := Aside0.mk (hb); clear HO_5; clear HO_7; clear HO_8; clear HO_9; clear HO181; clear HO185; clear HB; have HO_5 := n0_; have HO_7 := n1_; have HO_8 := n2_; have HO_9 := n3_; have HO181 := n4_; have HO185 := n5_; have HB := n6_; clear n0_ n1_ n2_ n3_ n4_ n5_ n6_; (try clear hb); (try clear hkp); (try clear hy0)))
                (try simp only [Act.put, List.setIfInBounds_toArray, List.set_cons_zero, List.set_cons_succ])
                go_cut [77] (fun v77 wc => ∃ (kq : Nat) (x77_36 : Bool), v77 = .bool x77_36 ∧ Aside0 (laws_FnExactFirstReadings.j1 kq l0 l1 t164 t165 t174 x77_36 = some r) ∧ Aside0 (kq ≤ kj10) ∧ Aside0 (KRW.R Kd.string 9 wc w.heap.size (fun k_ => some k_ ≠ (v176 : Value).ownBlock) v166 t164) ∧ Aside0 (KRW.R Kd.string 9 wc w.heap.size (fun k_ => some k_ ≠ (v166 : Value).ownBlock) v176 t174) ∧ Aside0 (Below w.heap.size w wc))
                case first =>
                  have H := HC37.out
                  clear HC37
                  by_cases c44 : t189 < 0
                  · rw [if_pos c44] at H
                    have c44b0 : decide (t189 < 0) = true := decide_eq_true c44
                    clear c44
                    (first | rw [c44b0] | (simp only [i64_w, i32_w]; rw [c44b0]) | skip)
                    have H' := Aside0.mk H
                    clear H
                    go_wp2
                    go_meet
                    case rel => exact ⟨_, (true), (by first | rfl | (simp; done) | (simp [*]; done)), H', ⟨by have := HJ10.out; first | omega | exact Nat.le_refl _⟩, ⟨by (with_reducible repeat (first | apply KRW.R_alloc | apply KRW.R_drewN | apply KRW.R_drew)); exact HO_5.out⟩, ⟨by (with_reducible repeat (first | apply KRW.R_alloc | apply KRW.R_drewN | apply KRW.R_drew)); exact HO_9.out⟩, ⟨by repeat (first | (with_reducible first | exact HB.out | apply below_alloc | apply pw_below_drewN | apply below_drew1) | exact HB.out)⟩⟩
                  · rw [if_neg c44] at H
                    have c44b0 : decide (t189 < 0) = false := decide_eq_false c44
                    clear c44
                    (first | rw [c44b0] | (simp only [i64_w, i32_w]; rw [c44b0]) | skip)
                    replace H := Option.bind_eq_some_iff.mp H
                    obtain ⟨t191, A450, H⟩ := H
                    replace H : (if t191 = true then (laws_FnExactFirstReadings.j1 kj10 l0 l1 t164 t165 t174 (t175 != t165)) else (laws_FnExactFirstReadings.j1 kj10 l0 l1 t164 t165 t174 true)) = some r := H
                    have A45 := Aside0.mk A450
                    clear A450
                    by_cases c46 : t191 = true
                    · subst c46
                      have H1 : (laws_FnExactFirstReadings.j1 kj10 l0 l1 t164 t165 t174 (t175 != t165)) = some r := by rw [if_pos rfl] at H; exact H
                      clear H
                      have H := H1
                      clear H1
                      have H' := Aside0.mk H
                      clear H
                      obtain ⟨Ao47, co47, eo47⟩ := KRW.R_slice HO_9.out
                      subst eo47
                      obtain ⟨Ao48, co48, eo48⟩ := KRW.R_slice HO_5.out
                      subst eo48
                      go_wp2_with (first | (go_at_call 26; (with_reducible refine (laws_eqStringS.calls kj10 _ _ t174 _ _ t164 true _ ?side1 ?side2 ?side3 ?side4 A45.out).mono ?_); (case side1 => repeat (first | exact (KRW.R_reads' HO_9.out).2.2 | (with_reducible refine Kd.C_alloc ?_ _) | (with_reducible refine Kd.C_drewN ?_ _) | (with_reducible refine Kd.C_drew ?_))); (case side2 => exact (KRW.R_reads' HO_9.out).2.1); (case side3 => repeat (first | exact (KRW.R_reads' HO_5.out).2.2 | (with_reducible refine Kd.C_alloc ?_ _) | (with_reducible refine Kd.C_drewN ?_ _) | (with_reducible refine Kd.C_drew ?_))); (case side4 => exact (KRW.R_reads' HO_5.out).2.1); rintro e w' ⟨rfl, ⟨nd, rfl⟩⟩))
                      go_meet
                      case rel => exact ⟨_, ((t175 != t165)), (by first | rfl | (simp; done) | (simp [*]; done)), H', ⟨by have := HJ10.out; first | omega | exact Nat.le_refl _⟩, ⟨by (with_reducible repeat (first | apply KRW.R_alloc | apply KRW.R_drewN | apply KRW.R_drew)); exact HO_5.out⟩, ⟨by (with_reducible repeat (first | apply KRW.R_alloc | apply KRW.R_drewN | apply KRW.R_drew)); exact HO_9.out⟩, ⟨by repeat (first | (with_reducible first | exact HB.out | apply below_alloc | apply pw_below_drewN | apply below_drew1) | exact HB.out)⟩⟩
                    · replace c46 := Bool.eq_false_iff.mpr c46
                      subst c46
                      have H1 : (laws_FnExactFirstReadings.j1 kj10 l0 l1 t164 t165 t174 true) = some r := by rw [if_neg (show ¬ (false = true) by decide)] at H; exact H
                      clear H
                      have H := H1
                      clear H1
                      have H' := Aside0.mk H
                      clear H
                      obtain ⟨Ao49, co49, eo49⟩ := KRW.R_slice HO_9.out
                      subst eo49
                      obtain ⟨Ao50, co50, eo50⟩ := KRW.R_slice HO_5.out
                      subst eo50
                      go_wp2_with (first | (go_at_call 26; (with_reducible refine (laws_eqStringS.calls kj10 _ _ t174 _ _ t164 false _ ?side1 ?side2 ?side3 ?side4 A45.out).mono ?_); (case side1 => repeat (first | exact (KRW.R_reads' HO_9.out).2.2 | (with_reducible refine Kd.C_alloc ?_ _) | (with_reducible refine Kd.C_drewN ?_ _) | (with_reducible refine Kd.C_drew ?_))); (case side2 => exact (KRW.R_reads' HO_9.out).2.1); (case side3 => repeat (first | exact (KRW.R_reads' HO_5.out).2.2 | (with_reducible refine Kd.C_alloc ?_ _) | (with_reducible refine Kd.C_drewN ?_ _) | (with_reducible refine Kd.C_drew ?_))); (case side4 => exact (KRW.R_reads' HO_5.out).2.1); rintro e w' ⟨rfl, ⟨nd, rfl⟩⟩))
                      go_meet
                      case rel => exact ⟨_, (true), (by first | rfl | (simp; done) | (simp [*]; done)), H', ⟨by have := HJ10.out; first | omega | exact Nat.le_refl _⟩, ⟨by (with_reducible repeat (first | apply KRW.R_alloc | apply KRW.R_drewN | apply KRW.R_drew)); exact HO_5.out⟩, ⟨by (with_reducible repeat (first | apply KRW.R_alloc | apply KRW.R_drewN | apply KRW.R_drew)); exact HO_9.out⟩, ⟨by repeat (first | (with_reducible first | exact HB.out | apply below_alloc | apply pw_below_drewN | apply below_drew1) | exact HB.out)⟩⟩
                case rest =>
                  clear HC37
                  try clear c1
                  try clear c2
                  try clear p2
                  try clear c3
                  try clear c3b0
                  try clear c3b1
                  try clear c4
                  try clear c4b0
                  try clear c4b1
                  try clear c9
                  try clear c13
                  try clear c15
                  try clear c18
                  try clear c23
                  try clear c26
                  try clear c28
                  try clear c31
                  try clear c32
                  try clear c34
                  try clear c44
                  try clear c44b0
                  try clear c46
                  try clear p2
                  obtain ⟨kq, x77_36, rfl, HA, HJ36, HO_5, HO_9, HB⟩ := hcut
                  cases kq with
                  | zero => exact absurd HA.out (by simp [laws_FnExactFirstReadings.j1])
                  | succ kj36 =>
                    have H := HA.out
                    clear HA
                    simp only [laws_FnExactFirstReadings.j1] at H
                    by_cases c51 : x77_36 = true
                    · subst c51
                      have H1 : (some false) = some r := by rw [if_pos rfl] at H; exact H
                      clear H
                      have H := H1
                      clear H1
                      obtain rfl := Option.some.inj H
                      go_wp2
                      go_ret
                      exact ⟨by first | rfl | (simp [errW_none, errW_some] <;> rfl) | (simp [*, errW_none, errW_some] <;> rfl), by repeat (first | (with_reducible first | exact HB.out | apply below_alloc | apply pw_below_drewN | apply below_drew1) | exact HB.out)⟩
                    · replace c51 := Bool.eq_false_iff.mpr c51
                      subst c51
                      have H1 : ((laws_markStringS.f kj36 t174 1).bind fun bt192 => ((laws_heldStringS.f kj36 bt192.2 1).bind fun t194 => (if t194 < 0 then (some false) else (if t194 = bt192.1 then ((laws_toIntS.f kj36 l0).bind fun t195 => ((laws_toIntS.f kj36 l1).bind fun t198 => ((impl_FirstReadings.f kj36 t195 t198).bind fun bt201 => ((laws_eqStringS.f kj36 bt201.1 t164).bind fun t205 => (if t205 = true then (laws_FnExactFirstReadings.j2 kj36 bt192.2 bt192.1 (bt201.2 != t165)) else (laws_FnExactFirstReadings.j2 kj36 bt192.2 bt192.1 true)))))) else (some false))))) = some r := by rw [if_neg (show ¬ (false = true) by decide)] at H; exact H
                      clear H
                      have H := H1
                      clear H1
                      replace H := Option.bind_eq_some_iff.mp H
                      obtain ⟨⟨t192, t193⟩, A520, H⟩ := H
                      replace H : ((laws_heldStringS.f kj36 t193 1).bind fun t194 => (if t194 < 0 then (some false) else (if t194 = t192 then ((laws_toIntS.f kj36 l0).bind fun t195 => ((laws_toIntS.f kj36 l1).bind fun t198 => ((impl_FirstReadings.f kj36 t195 t198).bind fun bt201 => ((laws_eqStringS.f kj36 bt201.1 t164).bind fun t205 => (if t205 = true then (laws_FnExactFirstReadings.j2 kj36 t193 t192 (bt201.2 != t165)) else (laws_FnExactFirstReadings.j2 kj36 t193 t192 true)))))) else (some false)))) = some r := H
                      have A52 := Aside0.mk A520
                      clear A520
                      replace H := Option.bind_eq_some_iff.mp H
                      obtain ⟨t194, A530, H⟩ := H
                      replace H : (if t194 < 0 then (some false) else (if t194 = t192 then ((laws_toIntS.f kj36 l0).bind fun t195 => ((laws_toIntS.f kj36 l1).bind fun t198 => ((impl_FirstReadings.f kj36 t195 t198).bind fun bt201 => ((laws_eqStringS.f kj36 bt201.1 t164).bind fun t205 => (if t205 = true then (laws_FnExactFirstReadings.j2 kj36 t193 t192 (bt201.2 != t165)) else (laws_FnExactFirstReadings.j2 kj36 t193 t192 true)))))) else (some false))) = some r := H
                      have A53 := Aside0.mk A530
                      clear A530
                      by_cases c54 : t194 < 0
                      · rw [if_pos c54] at H
                        have c54b0 : decide (t194 < 0) = true := decide_eq_true c54
                        clear c54
                        obtain rfl := Option.some.inj H
                        obtain ⟨Ao55, co55, eo55⟩ := KRW.R_slice HO_9.out
                        subst eo55
                        go_wp2_with (first | ((with_reducible refine gate_callee (f := 27) rfl ?_); refine goesL_ (some 80) rfl rfl Try.func27 (by kernel_rfl) rfl #[.slice Ao55 t174.length co55, .int .i64 1] rfl (by (try simp only [List.map_toArray, List.map_cons, List.map_nil]); first | done | rfl | (simp only [List.length_drop, List.length_take]; rfl)) ?_; (with_reducible refine (laws_markStringS.calls kj36 (fun k_ => some k_ = (.slice Ao55 t174.length co55 : Value).ownBlock) (.slice Ao55 t174.length co55) t174 1 t192 t193 w _ ?side1 ?side2 A52.out).mono ?_); (case side1 => repeat (first | (with_reducible first | exact HB.out | apply below_alloc | apply pw_below_drewN | apply below_drew1) | exact HB.out)); (case side2 => exact KRW.R_tight rfl HO_9.out); rintro e w56 ⟨rfl, hy0, hb, hkp⟩; refine ⟨_, rfl, ?_⟩; have n0_ := Aside0.mk (KRW.R_mono (ok' := fun k_ => some k_ ≠ (.slice Ao55 t174.length co55 : Value).ownBlock) (KRW.R_keptB (HO_5.out) hkp (fun k_ hk_ hs_ => (hk_) hs_)) (fun k_ hk_ => hk_.1)); have n1_ := Aside0.mk (KRW.R_reok rfl hy0 (fun k_ e_ => (KRW.R_fst HO_9.out) k_ e_)); have n2_ := Aside0.mk (hb); clear HO_5; clear HO_9; clear HB; have HO_5 := n0_; have HO_9 := n1_; have HB := n2_; clear n0_ n1_ n2_; (try clear hb); (try clear hkp); (try clear hy0)) | ((with_reducible refine gate_callee (f := 28) rfl ?_); refine goesL_ (some 83) rfl rfl Try.func28 (by kernel_rfl) rfl #[.slice Ao55 t193.length co55, .int .i64 1] rfl (by (try simp only [List.map_toArray, List.map_cons, List.map_nil]); first | done | (rw [show t193.length = t174.length from (KRW.R_reads' HO_9.out).1.symm] <;> rfl) | rfl | (simp only [List.length_drop, List.length_take]; rfl)) ?_; (with_reducible refine (laws_heldStringS.calls kj36 _ _ t193 1 t194 _ ?side1 ?side2 A53.out).mono ?_); (case side1 => repeat (first | exact (KRW.R_reads' HO_9.out).2.2 | (with_reducible refine Kd.C_alloc ?_ _) | (with_reducible refine Kd.C_drewN ?_ _) | (with_reducible refine Kd.C_drew ?_))); (case side2 => rw [show t193.length = t174.length from (KRW.R_reads' HO_9.out).1.symm]; exact (KRW.R_reads' HO_9.out).2.1); rintro e w57 ⟨rfl, hb⟩; refine ⟨_, rfl, ?_⟩; have n0_ := Aside0.mk (KRW.R_below (by (with_reducible repeat (first | apply KRW.R_alloc | apply KRW.R_drewN | apply KRW.R_drew)); exact HO_5.out) hb); have n1_ := Aside0.mk (KRW.R_below (by (with_reducible repeat (first | apply KRW.R_alloc | apply KRW.R_drewN | apply KRW.R_drew)); exact HO_9.out) hb); have n2_ := Aside0.mk (below_step (by repeat (first | (with_reducible first | exact HB.out | apply below_alloc | apply pw_below_drewN | apply below_drew1) | exact HB.out)) hb); clear HO_5; clear HO_9; clear HB; have HO_5 := n0_; have HO_9 := n1_; have HB := n2_; clear n0_ n1_ n2_; (try clear hb); (try clear hb2); (try clear hk); (try clear hi)))
                        go_ret
                        exact ⟨by first | rfl | (simp [errW_none, errW_some] <;> rfl) | (simp [*, errW_none, errW_some] <;> rfl), by repeat (first | (with_reducible first | exact HB.out | apply below_alloc | apply pw_below_drewN | apply below_drew1) | exact HB.out)⟩
                      · rw [if_neg c54] at H
                        have c54b0 : decide (t194 < 0) = false := decide_eq_false c54
                        clear c54
                        by_cases c58 : t194 = t192
                        · rw [if_pos c58] at H
                          have c58b0 : (t194 == t192) = true := beq_iff_eq.mpr c58
                          have c58b1 : (t194 != t192) = false := bne_eq_false_iff_eq.mpr c58
                          clear c58
                          replace H := Option.bind_eq_some_iff.mp H
                          obtain ⟨t195, A590, H⟩ := H
                          replace H : ((laws_toIntS.f kj36 l1).bind fun t198 => ((impl_FirstReadings.f kj36 t195 t198).bind fun bt201 => ((laws_eqStringS.f kj36 bt201.1 t164).bind fun t205 => (if t205 = true then (laws_FnExactFirstReadings.j2 kj36 t193 t192 (bt201.2 != t165)) else (laws_FnExactFirstReadings.j2 kj36 t193 t192 true))))) = some r := H
                          have A59 := Aside0.mk A590
                          clear A590
                          replace H := Option.bind_eq_some_iff.mp H
                          obtain ⟨t198, A600, H⟩ := H
                          replace H : ((impl_FirstReadings.f kj36 t195 t198).bind fun bt201 => ((laws_eqStringS.f kj36 bt201.1 t164).bind fun t205 => (if t205 = true then (laws_FnExactFirstReadings.j2 kj36 t193 t192 (bt201.2 != t165)) else (laws_FnExactFirstReadings.j2 kj36 t193 t192 true)))) = some r := H
                          have A60 := Aside0.mk A600
                          clear A600
                          replace H := Option.bind_eq_some_iff.mp H
                          obtain ⟨⟨t201, t202⟩, A610, H⟩ := H
                          replace H : ((laws_eqStringS.f kj36 t201 t164).bind fun t205 => (if t205 = true then (laws_FnExactFirstReadings.j2 kj36 t193 t192 (t202 != t165)) else (laws_FnExactFirstReadings.j2 kj36 t193 t192 true))) = some r := H
                          have A61 := Aside0.mk A610
                          clear A610
                          have HC62 := Aside0.mk H
                          clear H
                          obtain ⟨Ao63, co63, eo63⟩ := KRW.R_slice HO_9.out
                          subst eo63
                          go_upto_region 29 with (first | ((with_reducible refine gate_callee (f := 27) rfl ?_); refine goesL_ (some 80) rfl rfl Try.func27 (by kernel_rfl) rfl #[.slice Ao63 t174.length co63, .int .i64 1] rfl (by (try simp only [List.map_toArray, List.map_cons, List.map_nil]); first | done | rfl | (simp only [List.length_drop, List.length_take]; rfl)) ?_; (with_reducible refine (laws_markStringS.calls kj36 (fun k_ => some k_ = (.slice Ao63 t174.length co63 : Value).ownBlock) (.slice Ao63 t174.length co63) t174 1 t192 t193 w _ ?side1 ?side2 A52.out).mono ?_); (case side1 => repeat (first | (with_reducible first | exact HB.out | apply below_alloc | apply pw_below_drewN | apply below_drew1) | exact HB.out)); (case side2 => exact KRW.R_tight rfl HO_9.out); rintro e w64 ⟨rfl, hy0, hb, hkp⟩; refine ⟨_, rfl, ?_⟩; have n0_ := Aside0.mk (KRW.R_mono (ok' := fun k_ => some k_ ≠ (.slice Ao63 t174.length co63 : Value).ownBlock) (KRW.R_keptB (HO_5.out) hkp (fun k_ hk_ hs_ => (hk_) hs_)) (fun k_ hk_ => hk_.1)); have n1_ := Aside0.mk (KRW.R_reok rfl hy0 (fun k_ e_ => (KRW.R_fst HO_9.out) k_ e_)); have n2_ := Aside0.mk (hb); clear HO_5; clear HO_9; clear HB; have HO_5 := n0_; have HO_9 := n1_; have HB := n2_; clear n0_ n1_ n2_; (try clear hb); (try clear hkp); (try clear hy0)) | ((with_reducible refine gate_callee (f := 28) rfl ?_); refine goesL_ (some 83) rfl rfl Try.func28 (by kernel_rfl) rfl #[.slice Ao63 t193.length co63, .int .i64 1] rfl (by (try simp only [List.map_toArray, List.map_cons, List.map_nil]); first | done | (rw [show t193.length = t174.length from (KRW.R_reads' HO_9.out).1.symm] <;> rfl) | rfl | (simp only [List.length_drop, List.length_take]; rfl)) ?_; (with_reducible refine (laws_heldStringS.calls kj36 _ _ t193 1 t194 _ ?side1 ?side2 A53.out).mono ?_); (case side1 => repeat (first | exact (KRW.R_reads' HO_9.out).2.2 | (with_reducible refine Kd.C_alloc ?_ _) | (with_reducible refine Kd.C_drewN ?_ _) | (with_reducible refine Kd.C_drew ?_))); (case side2 => rw [show t193.length = t174.length from (KRW.R_reads' HO_9.out).1.symm]; exact (KRW.R_reads' HO_9.out).2.1); rintro e w65 ⟨rfl, hb⟩; refine ⟨_, rfl, ?_⟩; have n0_ := Aside0.mk (KRW.R_below (by (with_reducible repeat (first | apply KRW.R_alloc | apply KRW.R_drewN | apply KRW.R_drew)); exact HO_5.out) hb); have n1_ := Aside0.mk (KRW.R_below (by (with_reducible repeat (first | apply KRW.R_alloc | apply KRW.R_drewN | apply KRW.R_drew)); exact HO_9.out) hb); have n2_ := Aside0.mk (below_step (by repeat (first | (with_reducible first | exact HB.out | apply below_alloc | apply pw_below_drewN | apply below_drew1) | exact HB.out)) hb); clear HO_5; clear HO_9; clear HB; have HO_5 := n0_; have HO_9 := n1_; have HB := n2_; clear n0_ n1_ n2_; (try clear hb); (try clear hb2); (try clear hk); (try clear hi)) | ((with_reducible refine gate_callee (f := 13) rfl ?_); refine goesL_ (some 91) rfl rfl Try.func13 (by kernel_rfl) rfl #[.slice A0 l0.length c0] rfl (by (try simp only [List.map_toArray, List.map_cons, List.map_nil]); first | done | rfl | (simp only [List.length_drop, List.length_take]; rfl)) ?_; (with_reducible refine (laws_toIntS.calls kj36 _ _ l0 t195 _ ?side1 ?side2 A59.out).mono ?_); (case side1 => repeat (first | exact (Kd.C_below HR0.out HB.out) | (with_reducible refine Kd.C_alloc ?_ _) | (with_reducible refine Kd.C_drewN ?_ _) | (with_reducible refine Kd.C_drew ?_))); (case side2 => exact HC0.out); rintro e w66 ⟨v196, rfl, ho0, hb⟩; replace ho0 := KRW.of ho0; refine ⟨_, rfl, ?_⟩; have n0_ := Aside0.mk (KRW.R_below (by (with_reducible repeat (first | apply KRW.R_alloc | apply KRW.R_drewN | apply KRW.R_drew)); exact HO_5.out) hb); have n1_ := Aside0.mk (KRW.R_below (by (with_reducible repeat (first | apply KRW.R_alloc | apply KRW.R_drewN | apply KRW.R_drew)); exact HO_9.out) hb); have n2_ := Aside0.mk (KRW.R_lower ho0 (below_size (by repeat (first | (with_reducible first | exact HB.out | apply below_alloc | apply pw_below_drewN | apply below_drew1) | exact HB.out)))); have n3_ := Aside0.mk (below_step (by repeat (first | (with_reducible first | exact HB.out | apply below_alloc | apply pw_below_drewN | apply below_drew1) | exact HB.out)) hb); clear HO_5; clear HO_9; clear HB; have HO_5 := n0_; have HO_9 := n1_; have HO197 := n2_; have HB := n3_; clear n0_ n1_ n2_ n3_; (try clear hb); (try clear hb2); (try clear hk); (try clear hi); (try clear ho0)) | ((with_reducible refine gate_callee (f := 13) rfl ?_); refine goesL_ (some 93) rfl rfl Try.func13 (by kernel_rfl) rfl #[.slice A1 l1.length c1] rfl (by (try simp only [List.map_toArray, List.map_cons, List.map_nil]); first | done | rfl | (simp only [List.length_drop, List.length_take]; rfl)) ?_; (with_reducible refine (laws_toIntS.calls kj36 _ _ l1 t198 _ ?side1 ?side2 A60.out).mono ?_); (case side1 => repeat (first | exact (Kd.C_below HR1.out HB.out) | (with_reducible refine Kd.C_alloc ?_ _) | (with_reducible refine Kd.C_drewN ?_ _) | (with_reducible refine Kd.C_drew ?_))); (case side2 => exact HC1.out); rintro e w67 ⟨v199, rfl, ho0, hb⟩; replace ho0 := KRW.of ho0; refine ⟨_, rfl, ?_⟩; have n0_ := Aside0.mk (KRW.R_below (by (with_reducible repeat (first | apply KRW.R_alloc | apply KRW.R_drewN | apply KRW.R_drew)); exact HO_5.out) hb); have n1_ := Aside0.mk (KRW.R_below (by (with_reducible repeat (first | apply KRW.R_alloc | apply KRW.R_drewN | apply KRW.R_drew)); exact HO_9.out) hb); have n2_ := Aside0.mk (KRW.R_elder' (by (with_reducible repeat (first | apply KRW.R_alloc | apply KRW.R_drewN | apply KRW.R_drew)); exact HO197.out) (KRW.R_base ho0) hb); have n3_ := Aside0.mk (KRW.R_lower (KRW.R_new' ho0 (KRW.R_lt (by (with_reducible repeat (first | apply KRW.R_alloc | apply KRW.R_drewN | apply KRW.R_drew)); exact HO197.out))) (below_size (by repeat (first | (with_reducible first | exact HB.out | apply below_alloc | apply pw_below_drewN | apply below_drew1) | exact HB.out)))); have n4_ := Aside0.mk (below_step (by repeat (first | (with_reducible first | exact HB.out | apply below_alloc | apply pw_below_drewN | apply below_drew1) | exact HB.out)) hb); clear HO_5; clear HO_9; clear HO197; clear HB; have HO_5 := n0_; have HO_9 := n1_; have HO197 := n2_; have HO200 := n3_; have HB := n4_; clear n0_ n1_ n2_ n3_ n4_; (try clear hb); (try clear hb2); (try clear hk); (try clear hi); (try clear ho0); obtain ⟨Ao68, co68, eo68⟩ := KRW.R_slice HO197.out; subst eo68; obtain ⟨Ao69, co69, eo69⟩ := KRW.R_slice HO200.out; subst eo69) | ((with_reducible refine gate_callee (f := 32) rfl ?_); refine goesL_ (some 94) rfl rfl Try.func32 (by kernel_rfl) rfl #[.slice Ao68 t195.length co68, .slice Ao69 t198.length co69] rfl (by (try simp only [List.map_toArray, List.map_cons, List.map_nil]); first | done | rfl | (simp only [List.length_drop, List.length_take]; rfl)) ?_; (with_reducible refine (impl_FirstReadings.calls kj36 _ _ t195 _ _ t198 t201 t202 _ ?side1 ?side2 ?side3 ?side4 A61.out).mono ?_); (case side1 => repeat (first | exact (KRW.R_reads' HO197.out).2.2 | (with_reducible refine Kd.C_alloc ?_ _) | (with_reducible refine Kd.C_drewN ?_ _) | (with_reducible refine Kd.C_drew ?_))); (case side2 => exact (KRW.R_reads' HO197.out).2.1); (case side3 => repeat (first | exact (KRW.R_reads' HO200.out).2.2 | (with_reducible refine Kd.C_alloc ?_ _) | (with_reducible refine Kd.C_drewN ?_ _) | (with_reducible refine Kd.C_drew ?_))); (case side4 => exact (KRW.R_reads' HO200.out).2.1); rintro e w70 ⟨v203, v203c, rfl, hcut_, ho0, hb⟩; replace ho0 := KRW.cut hcut_ ho0; clear hcut_; refine ⟨_, rfl, ?_⟩; have n0_ := Aside0.mk (KRW.R_elder' (by (with_reducible repeat (first | apply KRW.R_alloc | apply KRW.R_drewN | apply KRW.R_drew)); exact HO_5.out) (KRW.R_base ho0) hb); have n1_ := Aside0.mk (KRW.R_elder' (by (with_reducible repeat (first | apply KRW.R_alloc | apply KRW.R_drewN | apply KRW.R_drew)); exact HO_9.out) (KRW.R_base ho0) hb); have n2_ := Aside0.mk (KRW.R_below (by (with_reducible repeat (first | apply KRW.R_alloc | apply KRW.R_drewN | apply KRW.R_drew)); exact HO197.out) hb); have n3_ := Aside0.mk (KRW.R_below (by (with_reducible repeat (first | apply KRW.R_alloc | apply KRW.R_drewN | apply KRW.R_drew)); exact HO200.out) hb); have n4_ := Aside0.mk (KRW.R_lower (KRW.R_new' (KRW.R_new' ho0 (KRW.R_lt (by (with_reducible repeat (first | apply KRW.R_alloc | apply KRW.R_drewN | apply KRW.R_drew)); exact HO_5.out))) (KRW.R_lt (by (with_reducible repeat (first | apply KRW.R_alloc | apply KRW.R_drewN | apply KRW.R_drew)); exact HO_9.out))) (below_size (by repeat (first | (with_reducible first | exact HB.out | apply below_alloc | apply pw_below_drewN | apply below_drew1) | exact HB.out)))); have n5_ := Aside0.mk (below_step (by repeat (first | (with_reducible first | exact HB.out | apply below_alloc | apply pw_below_drewN | apply below_drew1) | exact HB.out)) hb); clear HO_5; clear HO_9; clear HO197; clear HO200; clear HB; have HO_5 := n0_; have HO_9 := n1_; have HO197 := n2_; have HO200 := n3_; have HO204 := n4_; have HB := n5_; clear n0_ n1_ n2_ n3_ n4_ n5_; (try clear hb); (try clear hb2); (try clear hk); (try clear hi); (try clear ho0)))
                          (try simp only [Act.put, List.setIfInBounds_toArray, List.set_cons_zero, List.set_cons_succ])
                          go_cut [105] (fun v105 wc => ∃ (kq : Nat) (x105_61 : Bool), v105 = .bool x105_61 ∧ Aside0 (laws_FnExactFirstReadings.j2 kq t193 t192 x105_61 = some r) ∧ Aside0 (kq ≤ kj36) ∧ Aside0 (KRW.R Kd.string 9 wc w.heap.size (fun _ => True) (.slice Ao63 t174.length co63) t193) ∧ Aside0 (Below w.heap.size w wc))
                          case first =>
                            have H := HC62.out
                            clear HC62
                            replace H := Option.bind_eq_some_iff.mp H
                            obtain ⟨t205, A710, H⟩ := H
                            replace H : (if t205 = true then (laws_FnExactFirstReadings.j2 kj36 t193 t192 (t202 != t165)) else (laws_FnExactFirstReadings.j2 kj36 t193 t192 true)) = some r := H
                            have A71 := Aside0.mk A710
                            clear A710
                            by_cases c72 : t205 = true
                            · subst c72
                              have H1 : (laws_FnExactFirstReadings.j2 kj36 t193 t192 (t202 != t165)) = some r := by rw [if_pos rfl] at H; exact H
                              clear H
                              have H := H1
                              clear H1
                              have H' := Aside0.mk H
                              clear H
                              obtain ⟨Ao73, co73, eo73⟩ := KRW.R_slice HO204.out
                              subst eo73
                              obtain ⟨Ao74, co74, eo74⟩ := KRW.R_slice HO_5.out
                              subst eo74
                              go_wp2_with (first | ((with_reducible refine gate_callee (f := 26) rfl ?_); refine goesL_ (some 99) rfl rfl Try.func26 (by kernel_rfl) rfl #[.slice Ao73 t201.length co73, .slice Ao74 t164.length co74] rfl (by (try simp only [List.map_toArray, List.map_cons, List.map_nil]); first | done | rfl | (simp only [List.length_drop, List.length_take]; rfl)) ?_; (with_reducible refine (laws_eqStringS.calls kj36 _ _ t201 _ _ t164 true _ ?side1 ?side2 ?side3 ?side4 A71.out).mono ?_); (case side1 => repeat (first | exact (KRW.R_reads' HO204.out).2.2 | (with_reducible refine Kd.C_alloc ?_ _) | (with_reducible refine Kd.C_drewN ?_ _) | (with_reducible refine Kd.C_drew ?_))); (case side2 => exact (KRW.R_reads' HO204.out).2.1); (case side3 => repeat (first | exact (KRW.R_reads' HO_5.out).2.2 | (with_reducible refine Kd.C_alloc ?_ _) | (with_reducible refine Kd.C_drewN ?_ _) | (with_reducible refine Kd.C_drew ?_))); (case side4 => exact (KRW.R_reads' HO_5.out).2.1); rintro e w' ⟨rfl, ⟨nd, rfl⟩⟩; refine ⟨_, rfl, ?_⟩))
                              go_meet
                              case rel => exact ⟨_, ((t202 != t165)), (by first | rfl | (simp; done) | (simp [*]; done)), H', ⟨by have := HJ10.out; have := HJ36.out; first | omega | exact Nat.le_refl _⟩, ⟨by (with_reducible repeat (first | apply KRW.R_alloc | apply KRW.R_drewN | apply KRW.R_drew)); exact KRW.R_mono HO_9.out (fun _ hk => trivial)⟩, ⟨by repeat (first | (with_reducible first | exact HB.out | apply below_alloc | apply pw_below_drewN | apply below_drew1) | exact HB.out)⟩⟩
                            · replace c72 := Bool.eq_false_iff.mpr c72
                              subst c72
                              have H1 : (laws_FnExactFirstReadings.j2 kj36 t193 t192 true) = some r := by rw [if_neg (show ¬ (false = true) by decide)] at H; exact H
                              clear H
                              have H := H1
                              clear H1
                              have H' := Aside0.mk H
                              clear H
                              obtain ⟨Ao75, co75, eo75⟩ := KRW.R_slice HO204.out
                              subst eo75
                              obtain ⟨Ao76, co76, eo76⟩ := KRW.R_slice HO_5.out
                              subst eo76
                              go_wp2_with (first | ((with_reducible refine gate_callee (f := 26) rfl ?_); refine goesL_ (some 99) rfl rfl Try.func26 (by kernel_rfl) rfl #[.slice Ao75 t201.length co75, .slice Ao76 t164.length co76] rfl (by (try simp only [List.map_toArray, List.map_cons, List.map_nil]); first | done | rfl | (simp only [List.length_drop, List.length_take]; rfl)) ?_; (with_reducible refine (laws_eqStringS.calls kj36 _ _ t201 _ _ t164 false _ ?side1 ?side2 ?side3 ?side4 A71.out).mono ?_); (case side1 => repeat (first | exact (KRW.R_reads' HO204.out).2.2 | (with_reducible refine Kd.C_alloc ?_ _) | (with_reducible refine Kd.C_drewN ?_ _) | (with_reducible refine Kd.C_drew ?_))); (case side2 => exact (KRW.R_reads' HO204.out).2.1); (case side3 => repeat (first | exact (KRW.R_reads' HO_5.out).2.2 | (with_reducible refine Kd.C_alloc ?_ _) | (with_reducible refine Kd.C_drewN ?_ _) | (with_reducible refine Kd.C_drew ?_))); (case side4 => exact (KRW.R_reads' HO_5.out).2.1); rintro e w' ⟨rfl, ⟨nd, rfl⟩⟩; refine ⟨_, rfl, ?_⟩))
                              go_meet
                              case rel => exact ⟨_, (true), (by first | rfl | (simp; done) | (simp [*]; done)), H', ⟨by have := HJ10.out; have := HJ36.out; first | omega | exact Nat.le_refl _⟩, ⟨by (with_reducible repeat (first | apply KRW.R_alloc | apply KRW.R_drewN | apply KRW.R_drew)); exact KRW.R_mono HO_9.out (fun _ hk => trivial)⟩, ⟨by repeat (first | (with_reducible first | exact HB.out | apply below_alloc | apply pw_below_drewN | apply below_drew1) | exact HB.out)⟩⟩
                          case rest =>
                            clear HC62
                            try clear c1
                            try clear c2
                            try clear p2
                            try clear c3
                            try clear c3b0
                            try clear c3b1
                            try clear c4
                            try clear c4b0
                            try clear c4b1
                            try clear c5
                            try clear c7
                            try clear c9
                            try clear c13
                            try clear c15
                            try clear c18
                            try clear c23
                            try clear c26
                            try clear c27
                            try clear c28
                            try clear c31
                            try clear c32
                            try clear c34
                            try clear c44
                            try clear c44b0
                            try clear c46
                            try clear c51
                            try clear c54
                            try clear c54b0
                            try clear c58
                            try clear c58b0
                            try clear c58b1
                            try clear c72
                            try clear p2
                            obtain ⟨kq, x105_61, rfl, HA, HJ61, HO_9, HB⟩ := hcut
                            have hl9_61 := (KRW.R_reads' HO_9.out).1
                            rw [hl9_61] at HO_9
                            (try simp only [hl9_61])
                            cases kq with
                            | zero => exact absurd HA.out (by simp [laws_FnExactFirstReadings.j2])
                            | succ kj61 =>
                              have H := HA.out
                              clear HA
                              simp only [laws_FnExactFirstReadings.j2] at H
                              by_cases c77 : x105_61 = true
                              · subst c77
                                have H1 : (some false) = some r := by rw [if_pos rfl] at H; exact H
                                clear H
                                have H := H1
                                clear H1
                                obtain rfl := Option.some.inj H
                                go_wp2
                                go_ret
                                exact ⟨by first | rfl | (simp [errW_none, errW_some] <;> rfl) | (simp [*, errW_none, errW_some] <;> rfl), by repeat (first | (with_reducible first | exact HB.out | apply below_alloc | apply pw_below_drewN | apply below_drew1) | exact HB.out)⟩
                              · replace c77 := Bool.eq_false_iff.mpr c77
                                subst c77
                                have H1 : ((laws_heldStringS.f kj61 t193 1).bind fun t206 => (if t206 < 0 then (some false) else (if t206 = t192 then (some true) else (some false)))) = some r := by rw [if_neg (show ¬ (false = true) by decide)] at H; exact H
                                clear H
                                have H := H1
                                clear H1
                                replace H := Option.bind_eq_some_iff.mp H
                                obtain ⟨t206, A780, H⟩ := H
                                replace H : (if t206 < 0 then (some false) else (if t206 = t192 then (some true) else (some false))) = some r := H
                                have A78 := Aside0.mk A780
                                clear A780
                                by_cases c79 : t206 < 0
                                · rw [if_pos c79] at H
                                  have c79b0 : decide (t206 < 0) = true := decide_eq_true c79
                                  clear c79
                                  obtain rfl := Option.some.inj H
                                  go_wp2_with (first | ((with_reducible refine gate_callee (f := 28) rfl ?_); refine goesL_ (some 108) rfl rfl Try.func28 (by kernel_rfl) rfl #[.slice Ao63 t193.length co63, .int .i64 1] rfl (by (try simp only [List.map_toArray, List.map_cons, List.map_nil]); first | done | rfl | (simp only [List.length_drop, List.length_take]; rfl)) ?_; (with_reducible refine (laws_heldStringS.calls kj61 _ _ t193 1 t206 _ ?side1 ?side2 A78.out).mono ?_); (case side1 => repeat (first | exact (KRW.R_reads' HO_9.out).2.2 | (with_reducible refine Kd.C_alloc ?_ _) | (with_reducible refine Kd.C_drewN ?_ _) | (with_reducible refine Kd.C_drew ?_))); (case side2 => exact (KRW.R_reads' HO_9.out).2.1); rintro e w80 ⟨rfl, hb⟩; refine ⟨_, rfl, ?_⟩; have n0_ := Aside0.mk (KRW.R_below (by (with_reducible repeat (first | apply KRW.R_alloc | apply KRW.R_drewN | apply KRW.R_drew)); exact HO_9.out) hb); have n1_ := Aside0.mk (below_step (by repeat (first | (with_reducible first | exact HB.out | apply below_alloc | apply pw_below_drewN | apply below_drew1) | exact HB.out)) hb); clear HO_9; clear HB; have HO_9 := n0_; have HB := n1_; clear n0_ n1_; (try clear hb); (try clear hb2); (try clear hk); (try clear hi)))
                                  go_ret
                                  exact ⟨by first | rfl | (simp [errW_none, errW_some] <;> rfl) | (simp [*, errW_none, errW_some] <;> rfl), by repeat (first | (with_reducible first | exact HB.out | apply below_alloc | apply pw_below_drewN | apply below_drew1) | exact HB.out)⟩
                                · rw [if_neg c79] at H
                                  have c79b0 : decide (t206 < 0) = false := decide_eq_false c79
                                  clear c79
                                  by_cases c81 : t206 = t192
                                  · rw [if_pos c81] at H
                                    have c81b0 : (t206 == t192) = true := beq_iff_eq.mpr c81
                                    have c81b1 : (t206 != t192) = false := bne_eq_false_iff_eq.mpr c81
                                    clear c81
                                    obtain rfl := Option.some.inj H
                                    go_wp2_with (first | ((with_reducible refine gate_callee (f := 28) rfl ?_); refine goesL_ (some 108) rfl rfl Try.func28 (by kernel_rfl) rfl #[.slice Ao63 t193.length co63, .int .i64 1] rfl (by (try simp only [List.map_toArray, List.map_cons, List.map_nil]); first | done | rfl | (simp only [List.length_drop, List.length_take]; rfl)) ?_; (with_reducible refine (laws_heldStringS.calls kj61 _ _ t193 1 t206 _ ?side1 ?side2 A78.out).mono ?_); (case side1 => repeat (first | exact (KRW.R_reads' HO_9.out).2.2 | (with_reducible refine Kd.C_alloc ?_ _) | (with_reducible refine Kd.C_drewN ?_ _) | (with_reducible refine Kd.C_drew ?_))); (case side2 => exact (KRW.R_reads' HO_9.out).2.1); rintro e w82 ⟨rfl, hb⟩; refine ⟨_, rfl, ?_⟩; have n0_ := Aside0.mk (KRW.R_below (by (with_reducible repeat (first | apply KRW.R_alloc | apply KRW.R_drewN | apply KRW.R_drew)); exact HO_9.out) hb); have n1_ := Aside0.mk (below_step (by repeat (first | (with_reducible first | exact HB.out | apply below_alloc | apply pw_below_drewN | apply below_drew1) | exact HB.out)) hb); clear HO_9; clear HB; have HO_9 := n0_; have HB := n1_; clear n0_ n1_; (try clear hb); (try clear hb2); (try clear hk); (try clear hi)))
                                    go_ret
                                    exact ⟨by first | rfl | (simp [errW_none, errW_some] <;> rfl) | (simp [*, errW_none, errW_some] <;> rfl), by repeat (first | (with_reducible first | exact HB.out | apply below_alloc | apply pw_below_drewN | apply below_drew1) | exact HB.out)⟩
                                  · rw [if_neg c81] at H
                                    have c81b0 : (t206 == t192) = false := beq_eq_false_iff_ne.mpr c81
                                    have c81b1 : (t206 != t192) = true := bne_iff_ne.mpr c81
                                    obtain rfl := Option.some.inj H
                                    go_wp2_with (first | ((with_reducible refine gate_callee (f := 28) rfl ?_); refine goesL_ (some 108) rfl rfl Try.func28 (by kernel_rfl) rfl #[.slice Ao63 t193.length co63, .int .i64 1] rfl (by (try simp only [List.map_toArray, List.map_cons, List.map_nil]); first | done | rfl | (simp only [List.length_drop, List.length_take]; rfl)) ?_; (with_reducible refine (laws_heldStringS.calls kj61 _ _ t193 1 t206 _ ?side1 ?side2 A78.out).mono ?_); (case side1 => repeat (first | exact (KRW.R_reads' HO_9.out).2.2 | (with_reducible refine Kd.C_alloc ?_ _) | (with_reducible refine Kd.C_drewN ?_ _) | (with_reducible refine Kd.C_drew ?_))); (case side2 => exact (KRW.R_reads' HO_9.out).2.1); rintro e w83 ⟨rfl, hb⟩; refine ⟨_, rfl, ?_⟩; have n0_ := Aside0.mk (KRW.R_below (by (with_reducible repeat (first | apply KRW.R_alloc | apply KRW.R_drewN | apply KRW.R_drew)); exact HO_9.out) hb); have n1_ := Aside0.mk (below_step (by repeat (first | (with_reducible first | exact HB.out | apply below_alloc | apply pw_below_drewN | apply below_drew1) | exact HB.out)) hb); clear HO_9; clear HB; have HO_9 := n0_; have HB := n1_; clear n0_ n1_; (try clear hb); (try clear hb2); (try clear hk); (try clear hi)))
                                    go_ret
                                    exact ⟨by first | rfl | (simp [errW_none, errW_some] <;> rfl) | (simp [*, errW_none, errW_some] <;> rfl), by repeat (first | (with_reducible first | exact HB.out | apply below_alloc | apply pw_below_drewN | apply below_drew1) | exact HB.out)⟩
                        · rw [if_neg c58] at H
                          have c58b0 : (t194 == t192) = false := beq_eq_false_iff_ne.mpr c58
                          have c58b1 : (t194 != t192) = true := bne_iff_ne.mpr c58
                          obtain rfl := Option.some.inj H
                          obtain ⟨Ao84, co84, eo84⟩ := KRW.R_slice HO_9.out
                          subst eo84
                          go_wp2_with (first | ((with_reducible refine gate_callee (f := 27) rfl ?_); refine goesL_ (some 80) rfl rfl Try.func27 (by kernel_rfl) rfl #[.slice Ao84 t174.length co84, .int .i64 1] rfl (by (try simp only [List.map_toArray, List.map_cons, List.map_nil]); first | done | rfl | (simp only [List.length_drop, List.length_take]; rfl)) ?_; (with_reducible refine (laws_markStringS.calls kj36 (fun k_ => some k_ = (.slice Ao84 t174.length co84 : Value).ownBlock) (.slice Ao84 t174.length co84) t174 1 t192 t193 w _ ?side1 ?side2 A52.out).mono ?_); (case side1 => repeat (first | (with_reducible first | exact HB.out | apply below_alloc | apply pw_below_drewN | apply below_drew1) | exact HB.out)); (case side2 => exact KRW.R_tight rfl HO_9.out); rintro e w85 ⟨rfl, hy0, hb, hkp⟩; refine ⟨_, rfl, ?_⟩; have n0_ := Aside0.mk (KRW.R_mono (ok' := fun k_ => some k_ ≠ (.slice Ao84 t174.length co84 : Value).ownBlock) (KRW.R_keptB (HO_5.out) hkp (fun k_ hk_ hs_ => (hk_) hs_)) (fun k_ hk_ => hk_.1)); have n1_ := Aside0.mk (KRW.R_reok rfl hy0 (fun k_ e_ => (KRW.R_fst HO_9.out) k_ e_)); have n2_ := Aside0.mk (hb); clear HO_5; clear HO_9; clear HB; have HO_5 := n0_; have HO_9 := n1_; have HB := n2_; clear n0_ n1_ n2_; (try clear hb); (try clear hkp); (try clear hy0)) | ((with_reducible refine gate_callee (f := 28) rfl ?_); refine goesL_ (some 83) rfl rfl Try.func28 (by kernel_rfl) rfl #[.slice Ao84 t193.length co84, .int .i64 1] rfl (by (try simp only [List.map_toArray, List.map_cons, List.map_nil]); first | done | (rw [show t193.length = t174.length from (KRW.R_reads' HO_9.out).1.symm] <;> rfl) | rfl | (simp only [List.length_drop, List.length_take]; rfl)) ?_; (with_reducible refine (laws_heldStringS.calls kj36 _ _ t193 1 t194 _ ?side1 ?side2 A53.out).mono ?_); (case side1 => repeat (first | exact (KRW.R_reads' HO_9.out).2.2 | (with_reducible refine Kd.C_alloc ?_ _) | (with_reducible refine Kd.C_drewN ?_ _) | (with_reducible refine Kd.C_drew ?_))); (case side2 => rw [show t193.length = t174.length from (KRW.R_reads' HO_9.out).1.symm]; exact (KRW.R_reads' HO_9.out).2.1); rintro e w86 ⟨rfl, hb⟩; refine ⟨_, rfl, ?_⟩; have n0_ := Aside0.mk (KRW.R_below (by (with_reducible repeat (first | apply KRW.R_alloc | apply KRW.R_drewN | apply KRW.R_drew)); exact HO_5.out) hb); have n1_ := Aside0.mk (KRW.R_below (by (with_reducible repeat (first | apply KRW.R_alloc | apply KRW.R_drewN | apply KRW.R_drew)); exact HO_9.out) hb); have n2_ := Aside0.mk (below_step (by repeat (first | (with_reducible first | exact HB.out | apply below_alloc | apply pw_below_drewN | apply below_drew1) | exact HB.out)) hb); clear HO_5; clear HO_9; clear HB; have HO_5 := n0_; have HO_9 := n1_; have HB := n2_; clear n0_ n1_ n2_; (try clear hb); (try clear hb2); (try clear hk); (try clear hi)))
                          go_ret
                          exact ⟨by first | rfl | (simp [errW_none, errW_some] <;> rfl) | (simp [*, errW_none, errW_some] <;> rfl), by repeat (first | (with_reducible first | exact HB.out | apply below_alloc | apply pw_below_drewN | apply below_drew1) | exact HB.out)⟩
              · replace c34 := Bool.eq_false_iff.mpr c34
                subst c34
                have H1 : (some false) = some r := by rw [if_neg (show ¬ (false = true) by decide)] at H; exact H
                clear H
                have H := H1
                clear H1
                obtain rfl := Option.some.inj H
                go_wp2_with (first | ((with_reducible refine gate_callee (f := 13) rfl ?_); refine goesL_ (some 51) rfl rfl Try.func13 (by kernel_rfl) rfl #[.slice A0 l0.length c0] rfl (by (try simp only [List.map_toArray, List.map_cons, List.map_nil]); first | done | rfl | (simp only [List.length_drop, List.length_take]; rfl)) ?_; (with_reducible refine (laws_toIntS.calls kj10 _ _ l0 t179 _ ?side1 ?side2 A29.out).mono ?_); (case side1 => repeat (first | exact (Kd.C_below HR0.out HB.out) | (with_reducible refine Kd.C_alloc ?_ _) | (with_reducible refine Kd.C_drewN ?_ _) | (with_reducible refine Kd.C_drew ?_))); (case side2 => exact HC0.out); rintro e w87 ⟨v180, rfl, ho0, hb⟩; replace ho0 := KRW.of ho0; refine ⟨_, rfl, ?_⟩; have n0_ := Aside0.mk (KRW.R_below (by (with_reducible repeat (first | apply KRW.R_alloc | apply KRW.R_drewN | apply KRW.R_drew)); exact HO_5.out) hb); have n1_ := Aside0.mk (KRW.R_elder' (by (with_reducible repeat (first | apply KRW.R_alloc | apply KRW.R_drewN | apply KRW.R_drew)); exact HO_7.out) (KRW.R_base ho0) hb); have n2_ := Aside0.mk (KRW.R_elder' (by (with_reducible repeat (first | apply KRW.R_alloc | apply KRW.R_drewN | apply KRW.R_drew)); exact HO_8.out) (KRW.R_base ho0) hb); have n3_ := Aside0.mk (KRW.R_below (by (with_reducible repeat (first | apply KRW.R_alloc | apply KRW.R_drewN | apply KRW.R_drew)); exact HO_9.out) hb); have n4_ := Aside0.mk (KRW.R_lower (KRW.R_new' (KRW.R_new' ho0 (KRW.R_lt (by (with_reducible repeat (first | apply KRW.R_alloc | apply KRW.R_drewN | apply KRW.R_drew)); exact HO_7.out))) (KRW.R_lt (by (with_reducible repeat (first | apply KRW.R_alloc | apply KRW.R_drewN | apply KRW.R_drew)); exact HO_8.out))) (below_size (by repeat (first | (with_reducible first | exact HB.out | apply below_alloc | apply pw_below_drewN | apply below_drew1) | exact HB.out)))); have n5_ := Aside0.mk (below_step (by repeat (first | (with_reducible first | exact HB.out | apply below_alloc | apply pw_below_drewN | apply below_drew1) | exact HB.out)) hb); clear HO_5; clear HO_7; clear HO_8; clear HO_9; clear HB; have HO_5 := n0_; have HO_7 := n1_; have HO_8 := n2_; have HO_9 := n3_; have HO181 := n4_; have HB := n5_; clear n0_ n1_ n2_ n3_ n4_ n5_; (try clear hb); (try clear hb2); (try clear hk); (try clear hi); (try clear ho0); obtain ⟨Ao88, co88, eo88⟩ := KRW.R_slice HO181.out; subst eo88) | ((with_reducible refine gate_callee (f := 15) rfl ?_); refine goesL_ (some 52) rfl rfl Try.func15 (by kernel_rfl) rfl #[.slice Ao19 t168.length co19, .slice Ao88 t179.length co88] rfl (by (try simp only [List.map_toArray, List.map_cons, List.map_nil]); first | done | rfl | (simp only [List.length_drop, List.length_take]; rfl)) ?_; (with_reducible refine (laws_eqIntS.calls kj10 _ _ t168 _ _ t179 true _ ?side1 ?side2 ?side3 ?side4 A30.out).mono ?_); (case side1 => repeat (first | exact (KRW.R_reads' HO_7.out).2.2 | (with_reducible refine Kd.C_alloc ?_ _) | (with_reducible refine Kd.C_drewN ?_ _) | (with_reducible refine Kd.C_drew ?_))); (case side2 => exact (KRW.R_reads' HO_7.out).2.1); (case side3 => repeat (first | exact (KRW.R_reads' HO181.out).2.2 | (with_reducible refine Kd.C_alloc ?_ _) | (with_reducible refine Kd.C_drewN ?_ _) | (with_reducible refine Kd.C_drew ?_))); (case side4 => exact (KRW.R_reads' HO181.out).2.1); rintro e w' ⟨rfl, ⟨nd, rfl⟩⟩; refine ⟨_, rfl, ?_⟩) | ((with_reducible refine gate_callee (f := 13) rfl ?_); refine goesL_ (some 56) rfl rfl Try.func13 (by kernel_rfl) rfl #[.slice A1 l1.length c1] rfl (by (try simp only [List.map_toArray, List.map_cons, List.map_nil]); first | done | rfl | (simp only [List.length_drop, List.length_take]; rfl)) ?_; (with_reducible refine (laws_toIntS.calls kj10 _ _ l1 t183 _ ?side1 ?side2 A32.out).mono ?_); (case side1 => repeat (first | exact (Kd.C_below HR1.out (by repeat (first | (with_reducible first | exact HB.out | apply below_alloc | apply pw_below_drewN | apply below_drew1) | exact HB.out))) | (with_reducible refine Kd.C_alloc ?_ _) | (with_reducible refine Kd.C_drewN ?_ _) | (with_reducible refine Kd.C_drew ?_))); (case side2 => exact HC1.out); rintro e w89 ⟨v184, rfl, ho0, hb⟩; replace ho0 := KRW.of ho0; refine ⟨_, rfl, ?_⟩; have n0_ := Aside0.mk (KRW.R_below (by (with_reducible repeat (first | apply KRW.R_alloc | apply KRW.R_drewN | apply KRW.R_drew)); exact HO_5.out) hb); have n1_ := Aside0.mk (KRW.R_elder' (by (with_reducible repeat (first | apply KRW.R_alloc | apply KRW.R_drewN | apply KRW.R_drew)); exact HO_7.out) (KRW.R_base ho0) hb); have n2_ := Aside0.mk (KRW.R_elder' (by (with_reducible repeat (first | apply KRW.R_alloc | apply KRW.R_drewN | apply KRW.R_drew)); exact HO_8.out) (KRW.R_base ho0) hb); have n3_ := Aside0.mk (KRW.R_below (by (with_reducible repeat (first | apply KRW.R_alloc | apply KRW.R_drewN | apply KRW.R_drew)); exact HO_9.out) hb); have n4_ := Aside0.mk (KRW.R_elder' (by (with_reducible repeat (first | apply KRW.R_alloc | apply KRW.R_drewN | apply KRW.R_drew)); exact HO181.out) (KRW.R_base ho0) hb); have n5_ := Aside0.mk (KRW.R_lower (KRW.R_new' (KRW.R_new' (KRW.R_new' ho0 (KRW.R_lt (by (with_reducible repeat (first | apply KRW.R_alloc | apply KRW.R_drewN | apply KRW.R_drew)); exact HO_7.out))) (KRW.R_lt (by (with_reducible repeat (first | apply KRW.R_alloc | apply KRW.R_drewN | apply KRW.R_drew)); exact HO_8.out))) (KRW.R_lt (by (with_reducible repeat (first | apply KRW.R_alloc | apply KRW.R_drewN | apply KRW.R_drew)); exact HO181.out))) (below_size (by repeat (first | (with_reducible first | exact HB.out | apply below_alloc | apply pw_below_drewN | apply below_drew1) | exact HB.out)))); have n6_ := Aside0.mk (below_step (by repeat (first | (with_reducible first | exact HB.out | apply below_alloc | apply pw_below_drewN | apply below_drew1) | exact HB.out)) hb); clear HO_5; clear HO_7; clear HO_8; clear HO_9; clear HO181; clear HB; have HO_5 := n0_; have HO_7 := n1_; have HO_8 := n2_; have HO_9 := n3_; have HO181 := n4_; have HO185 := n5_; have HB := n6_; clear n0_ n1_ n2_ n3_ n4_ n5_ n6_; (try clear hb); (try clear hb2); (try clear hk); (try clear hi); (try clear ho0); obtain ⟨Ao90, co90, eo90⟩ := KRW.R_slice HO185.out; subst eo90) | ((with_reducible refine gate_callee (f := 15) rfl ?_); refine goesL_ (some 57) rfl rfl Try.func15 (by kernel_rfl) rfl #[.slice Ao20 t171.length co20, .slice Ao90 t183.length co90] rfl (by (try simp only [List.map_toArray, List.map_cons, List.map_nil]); first | done | rfl | (simp only [List.length_drop, List.length_take]; rfl)) ?_; (with_reducible refine (laws_eqIntS.calls kj10 _ _ t171 _ _ t183 false _ ?side1 ?side2 ?side3 ?side4 A33.out).mono ?_); (case side1 => repeat (first | exact (KRW.R_reads' HO_8.out).2.2 | (with_reducible refine Kd.C_alloc ?_ _) | (with_reducible refine Kd.C_drewN ?_ _) | (with_reducible refine Kd.C_drew ?_))); (case side2 => exact (KRW.R_reads' HO_8.out).2.1); (case side3 => repeat (first | exact (KRW.R_reads' HO185.out).2.2 | (with_reducible refine Kd.C_alloc ?_ _) | (with_reducible refine Kd.C_drewN ?_ _) | (with_reducible refine Kd.C_drew ?_))); (case side4 => exact (KRW.R_reads' HO185.out).2.1); rintro e w' ⟨rfl, ⟨nd, rfl⟩⟩; refine ⟨_, rfl, ?_⟩))
                go_ret
                exact ⟨by first | rfl | (simp [errW_none, errW_some] <;> rfl) | (simp [*, errW_none, errW_some] <;> rfl), by repeat (first | (with_reducible first | exact HB.out | apply below_alloc | apply pw_below_drewN | apply below_drew1) | exact HB.out)⟩
            · replace c31 := Bool.eq_false_iff.mpr c31
              subst c31
              have H1 : (some false) = some r := by rw [if_neg (show ¬ (false = true) by decide)] at H; exact H
              clear H
              have H := H1
              clear H1
              obtain rfl := Option.some.inj H
              go_wp2_with (first | ((with_reducible refine gate_callee (f := 13) rfl ?_); refine goesL_ (some 51) rfl rfl Try.func13 (by kernel_rfl) rfl #[.slice A0 l0.length c0] rfl (by (try simp only [List.map_toArray, List.map_cons, List.map_nil]); first | done | rfl | (simp only [List.length_drop, List.length_take]; rfl)) ?_; (with_reducible refine (laws_toIntS.calls kj10 _ _ l0 t179 _ ?side1 ?side2 A29.out).mono ?_); (case side1 => repeat (first | exact (Kd.C_below HR0.out HB.out) | (with_reducible refine Kd.C_alloc ?_ _) | (with_reducible refine Kd.C_drewN ?_ _) | (with_reducible refine Kd.C_drew ?_))); (case side2 => exact HC0.out); rintro e w91 ⟨v180, rfl, ho0, hb⟩; replace ho0 := KRW.of ho0; refine ⟨_, rfl, ?_⟩; have n0_ := Aside0.mk (KRW.R_below (by (with_reducible repeat (first | apply KRW.R_alloc | apply KRW.R_drewN | apply KRW.R_drew)); exact HO_5.out) hb); have n1_ := Aside0.mk (KRW.R_elder' (by (with_reducible repeat (first | apply KRW.R_alloc | apply KRW.R_drewN | apply KRW.R_drew)); exact HO_7.out) (KRW.R_base ho0) hb); have n2_ := Aside0.mk (KRW.R_elder' (by (with_reducible repeat (first | apply KRW.R_alloc | apply KRW.R_drewN | apply KRW.R_drew)); exact HO_8.out) (KRW.R_base ho0) hb); have n3_ := Aside0.mk (KRW.R_below (by (with_reducible repeat (first | apply KRW.R_alloc | apply KRW.R_drewN | apply KRW.R_drew)); exact HO_9.out) hb); have n4_ := Aside0.mk (KRW.R_lower (KRW.R_new' (KRW.R_new' ho0 (KRW.R_lt (by (with_reducible repeat (first | apply KRW.R_alloc | apply KRW.R_drewN | apply KRW.R_drew)); exact HO_7.out))) (KRW.R_lt (by (with_reducible repeat (first | apply KRW.R_alloc | apply KRW.R_drewN | apply KRW.R_drew)); exact HO_8.out))) (below_size (by repeat (first | (with_reducible first | exact HB.out | apply below_alloc | apply pw_below_drewN | apply below_drew1) | exact HB.out)))); have n5_ := Aside0.mk (below_step (by repeat (first | (with_reducible first | exact HB.out | apply below_alloc | apply pw_below_drewN | apply below_drew1) | exact HB.out)) hb); clear HO_5; clear HO_7; clear HO_8; clear HO_9; clear HB; have HO_5 := n0_; have HO_7 := n1_; have HO_8 := n2_; have HO_9 := n3_; have HO181 := n4_; have HB := n5_; clear n0_ n1_ n2_ n3_ n4_ n5_; (try clear hb); (try clear hb2); (try clear hk); (try clear hi); (try clear ho0); obtain ⟨Ao92, co92, eo92⟩ := KRW.R_slice HO181.out; subst eo92) | ((with_reducible refine gate_callee (f := 15) rfl ?_); refine goesL_ (some 52) rfl rfl Try.func15 (by kernel_rfl) rfl #[.slice Ao19 t168.length co19, .slice Ao92 t179.length co92] rfl (by (try simp only [List.map_toArray, List.map_cons, List.map_nil]); first | done | rfl | (simp only [List.length_drop, List.length_take]; rfl)) ?_; (with_reducible refine (laws_eqIntS.calls kj10 _ _ t168 _ _ t179 false _ ?side1 ?side2 ?side3 ?side4 A30.out).mono ?_); (case side1 => repeat (first | exact (KRW.R_reads' HO_7.out).2.2 | (with_reducible refine Kd.C_alloc ?_ _) | (with_reducible refine Kd.C_drewN ?_ _) | (with_reducible refine Kd.C_drew ?_))); (case side2 => exact (KRW.R_reads' HO_7.out).2.1); (case side3 => repeat (first | exact (KRW.R_reads' HO181.out).2.2 | (with_reducible refine Kd.C_alloc ?_ _) | (with_reducible refine Kd.C_drewN ?_ _) | (with_reducible refine Kd.C_drew ?_))); (case side4 => exact (KRW.R_reads' HO181.out).2.1); rintro e w' ⟨rfl, ⟨nd, rfl⟩⟩; refine ⟨_, rfl, ?_⟩))
              go_ret
              exact ⟨by first | rfl | (simp [errW_none, errW_some] <;> rfl) | (simp [*, errW_none, errW_some] <;> rfl), by repeat (first | (with_reducible first | exact HB.out | apply below_alloc | apply pw_below_drewN | apply below_drew1) | exact HB.out)⟩

/-- THE ONE PURE STATEMENT of laws_FnExactFirstReadings: yours. -/
def laws_FnExactFirstReadings.Pure : Prop := ∀ (l0 : List Int) (l1 : List Int), l0.length ≤ maxLen → l0.length * 8 ≤ 140737488351232 → (∀ x ∈ l0, (Lit.int .i64 x).wf = true) → l1.length ≤ maxLen → l1.length * 8 ≤ 140737488351232 → (∀ x ∈ l1, (Lit.int .i64 x).wf = true) → ∃ k, laws_FnExactFirstReadings.f k l0 l1 = some true
theorem laws_FnExactFirstReadings.walk (P : laws_FnExactFirstReadings.Pure) (a0 : Option Addr) (len0 cap0 : Nat) (z0 : List Int) (a1 : Option Addr) (len1 cap1 : Nat) (z1 : List Int) (w : World) (w0 : (a0 = none ∧ len0 = 0 ∧ cap0 = 0 ∧ z0 = []) ∨ ∃ x, a0 = some x ∧ len0 ≤ cap0 ∧ cap0 ≤ maxLen ∧ z0.length = cap0 ∧ (∀ i, i < z0.length → w.cell? (x.add i) = some (.int .i64 (z0.getD i 0))) ∧ ∀ n ∈ z0, (Lit.int .i64 n).wf = true) (y0 : len0 * 8 ≤ 140737488351232) (w1 : (a1 = none ∧ len1 = 0 ∧ cap1 = 0 ∧ z1 = []) ∨ ∃ x, a1 = some x ∧ len1 ≤ cap1 ∧ cap1 ≤ maxLen ∧ z1.length = cap1 ∧ (∀ i, i < z1.length → w.cell? (x.add i) = some (.int .i64 (z1.getD i 0))) ∧ ∀ n ∈ z1, (Lit.int .i64 n).wf = true) (y1 : len1 * 8 ≤ 140737488351232) :
    Calls Try.prog 9 #[.slice a0 len0 cap0, .slice a1 len1 cap1] w fun e w' => e = .returned (.bool true) ∧ Below w.heap.size w w' := by
  obtain ⟨l0, rfl, hr0, hm0, hw0, hc0⟩ := ReadsInt.ofRowC w0
  obtain ⟨l1, rfl, hr1, hm1, hw1, hc1⟩ := ReadsInt.ofRowC w1
  obtain ⟨k, h⟩ := P l0 l1 hm0 y0 hw0 hm1 y1 hw1
  refine (laws_FnExactFirstReadings.calls k _ _ l0 _ _ l1 true w (Kd.C_of_reads (d := (0 : Int)) (h1 := fun _ => rfl) hr0) hc0 (Kd.C_of_reads (d := (0 : Int)) (h1 := fun _ => rfl) hr1) hc1 h).mono ?_
  rintro e w' ⟨rfl, hd⟩
  exact ⟨rfl, hd⟩

end Go.Proofs.Ytopmmmggjohkeaa.FE
