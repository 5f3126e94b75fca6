-- laid by pr.py (wip/tools) over the kit's printer; Lean checks it
import Derived.Test.YtopmmmggjohkeaaFGx0
import Derived.Test.YtopmmmggjohkeaaFGx1
import Derived.Test.YtopmmmggjohkeaaFGx2
import Derived.Test.YtopmmmggjohkeaaFGx3
import Derived.Test.YtopmmmggjohkeaaFGx4
import Derived.Test.YtopmmmggjohkeaaFGx7
import Derived.Test.YtopmmmggjohkeaaFGx8
import Derived.Test.YtopmmmggjohkeaaFGx12
import Derived.Test.YtopmmmggjohkeaaFGx13
import Derived.Test.YtopmmmggjohkeaaFGx14
namespace Go.Proofs.Ytopmmmggjohkeaa.FG
open Go.RowKit Go.Proofs.YtopmmmggjohkeaaW.PrintWords Go.Proofs.YtopmmmggjohkeaaW.PrintLast Go.Proofs.YtopmmmggjohkeaaW.PrintMore
attribute [local go_sem] max2_int min2_int max_two min_two max_three min_three max_four min_four   -- for this text's walks alone
set_option linter.unusedVariables false
set_option linter.unusedSimpArgs false

/-! ### laws_FnExactAlikeWords: function 10 -/
/-- True where every call answers as it should. -/
def laws_FnExactAlikeWords.ok (k : Nat) (l0 : List Int) (l1 : List ByteArray) (p0 : List (List Int)) (b : Bool) : Option Bool := (laws_eqIntSS.f k p0 p0).bind fun e1 => (laws_markIntS.f k l0 1).bind fun x1 => (laws_markStringS.f k l1 x1.1).bind fun x2 => (laws_markIntSS.f k p0 1).bind fun x3 => (laws_heldIntSS.f k x3.2 1).bind fun x4 => if (e1 && (decide (0 ≤ x2.1) && (decide (0 ≤ x3.1) && decide (x4 = x3.1)))) = true then some true else none
def laws_FnExactAlikeWords.f (k : Nat) (l0 : List Int) (l1 : List ByteArray) : Option Bool := if (l0.length : Int) > 1048576 then some true else (laws_szStringS.f k l1 1048576).bind fun z => if z < 0 then some true else (laws_toIntS.f k l0).bind fun t => (laws_toStringS.f k l1).bind fun u => (spec_AlikeWords.f k t u).bind fun p => (impl_AlikeWords.f k t u).bind fun p2 => (laws_eqIntS.f k t t).bind fun e2 => (laws_eqStringS.f k u u).bind fun e3 => if (decide (t = l0) && (decide (u = l1) && (decide (p = p2) && (e2 && e3)))) = true then laws_FnExactAlikeWords.ok k l0 l1 p.1 p.2 else none
theorem laws_FnExactAlikeWords.mono : ∀ a0 a1 k, LeO (laws_FnExactAlikeWords.f k a0 a1) (laws_FnExactAlikeWords.f (k + 1) a0 a1) := by
  intro a0 a1 k
  unfold laws_FnExactAlikeWords.f laws_FnExactAlikeWords.ok
  repeat' first
    | (with_reducible exact LeO.refl _)
    | (with_reducible exact LeO.none _)
    | (with_reducible exact laws_szStringS.mono _ _ _)
    | (with_reducible exact laws_toIntS.mono _ _)
    | (with_reducible exact laws_toStringS.mono _ _)
    | (with_reducible exact spec_AlikeWords.mono _ _ _)
    | (with_reducible exact impl_AlikeWords.mono _ _ _)
    | (with_reducible exact laws_eqIntS.mono _ _ _)
    | (with_reducible exact laws_eqStringS.mono _ _ _)
    | (with_reducible exact laws_eqIntSS.mono _ _ _)
    | (with_reducible exact laws_markIntS.mono _ _ _)
    | (with_reducible exact laws_markStringS.mono _ _ _)
    | (with_reducible exact laws_markIntSS.mono _ _ _)
    | (with_reducible exact laws_heldIntSS.mono _ _ _)
    | (with_reducible refine LeO.ite ?_ ?_)
    | (with_reducible refine LeO.bind ?_ (fun _ => ?_))
set_option maxHeartbeats 2000000 in
set_option maxRecDepth 100000 in
theorem laws_FnExactAlikeWords.big (k : Nat) (A0 : Option Addr) (c0 : Nat) (l0 : List Int) (A1 : Option Addr) (c1 : Nat) (l1 : List ByteArray) (w : World) (hz : decide (1048576 < (l0.length : Int)) = true) :
    Calls Try.prog 10 #[.slice A0 l0.length c0, .slice A1 l1.length c1] w fun e w' => e = .returned (.bool true) ∧ Below w.heap.size w w' := by
  go_enter Try.func10, Try.ntmps10
  go_wp2
  go_ret
  exact ⟨rfl, Below.refl _ _⟩
set_option maxHeartbeats 2000000 in
set_option maxRecDepth 100000 in
theorem laws_FnExactAlikeWords.wide (k : Nat) (A0 : Option Addr) (c0 : Nat) (l0 : List Int) (A1 : Option Addr) (c1 : Nat) (l1 : List ByteArray) (z : Int) (w : World) (hr0 : Kd.C (Kd.int .i64) w A0 l0.length l0) (hc0 : l0.length ≤ c0) (hr1 : Kd.C Kd.string w A1 l1.length l1) (hc1 : l1.length ≤ c1) (hz0 : decide (1048576 < (l0.length : Int)) = false) (hz : laws_szStringS.f k l1 1048576 = some z) (hz1 : decide (z < 0) = true) :
    Calls Try.prog 10 #[.slice A0 l0.length c0, .slice A1 l1.length c1] w fun e w' => e = .returned (.bool true) ∧ Below w.heap.size w w' := by
  have HR1 := Aside0.mk hr1
  have HB := Aside0.mk (Below.refl w.heap.size w)
  clear hr0 hr1
  go_enter Try.func10, Try.ntmps10
  go_wp2_with ((with_reducible refine gate_dst (N := 22) rfl ?_); refine goesL_ (some 22) rfl rfl Try.func33 (by kernel_rfl) rfl #[.slice A1 l1.length c1, .int .i64 1048576] rfl (by (try simp only [List.map_toArray, List.map_cons, List.map_nil]); first | done | rfl) ?_; (with_reducible refine (laws_szStringS.calls k A1 c1 l1 1048576 z _ (Kd.C_below HR1.out HB.out) hc1 hz).mono ?_); rintro e w22 ⟨rfl, hd⟩; refine ⟨_, rfl, ?_⟩; have hb := hd.below; have n0 := Aside0.mk (below_step HB.out hb); clear HB; have HB := n0; clear n0; clear hd hb)
  go_ret
  exact ⟨rfl, HB.out⟩
set_option maxHeartbeats 40000000 in
set_option maxRecDepth 100000 in
theorem laws_FnExactAlikeWords.main (k : Nat) (A0 : Option Addr) (c0 : Nat) (l0 : List Int) (A1 : Option Addr) (c1 : Nat) (l1 : List ByteArray) (z : Int) (p0 : List (List Int)) (b : Bool) (k1 : Int) (m1 : List Int) (k2 : Int) (m2 : List ByteArray) (q : Int) (p1 : List (List Int)) (w : World) (hr0 : Kd.C (Kd.int .i64) w A0 l0.length l0) (hc0 : l0.length ≤ c0) (hr1 : Kd.C Kd.string w A1 l1.length l1) (hc1 : l1.length ≤ c1) (hz0 : decide (1048576 < (l0.length : Int)) = false) (hz : laws_szStringS.f k l1 1048576 = some z) (hz1 : decide (z < 0) = false) (ht : laws_toIntS.f k l0 = some l0) (hu : laws_toStringS.f k l1 = some l1) (hs : spec_AlikeWords.f k l0 l1 = some (p0, b)) (hi : impl_AlikeWords.f k l0 l1 = some (p0, b)) (he : laws_eqIntSS.f k p0 p0 = some true) (hei : laws_eqIntS.f k l0 l0 = some true) (hes : laws_eqStringS.f k l1 l1 = some true) (hm1 : laws_markIntS.f k l0 1 = some (k1, m1)) (hm2 : laws_markStringS.f k l1 k1 = some (k2, m2)) (hk2 : decide (k2 < 0) = false) (hm3 : laws_markIntSS.f k p0 1 = some (q, p1)) (hh : laws_heldIntSS.f k p1 1 = some q) (hq : decide (q < 0) = false) :
    Calls Try.prog 10 #[.slice A0 l0.length c0, .slice A1 l1.length c1] w fun e w' => e = .returned (.bool true) ∧ Below w.heap.size w w' := by
  have HR0 := Aside0.mk hr0
  have HR1 := Aside0.mk hr1
  have HB := Aside0.mk (Below.refl w.heap.size w)
  have hbb : (b != b) = false := bne_self_eq_false b
  have hqq : (q != q) = false := bne_self_eq_false q
  clear hr0 hr1
  go_enter Try.func10, Try.ntmps10
  go_wp2_with (first | ((with_reducible refine gate_dst (N := 22) rfl ?_); refine goesL_ (some 22) rfl rfl Try.func33 (by kernel_rfl) rfl #[.slice A1 l1.length c1, .int .i64 1048576] rfl (by (try simp only [List.map_toArray, List.map_cons, List.map_nil]); first | done | rfl) ?_; (with_reducible refine (laws_szStringS.calls k A1 c1 l1 1048576 z _ (Kd.C_below HR1.out HB.out) hc1 hz).mono ?_); rintro e w22 ⟨rfl, hd⟩; refine ⟨_, rfl, ?_⟩; have hb := hd.below; have n0 := Aside0.mk (below_step HB.out hb); clear HB; have HB := n0; clear n0; clear hd hb) | ((with_reducible refine gate_dst (N := 27) rfl ?_); refine goesL_ (some 27) rfl rfl Try.func13 (by kernel_rfl) rfl #[.slice A0 l0.length c0] rfl (by (try simp only [List.map_toArray, List.map_cons, List.map_nil]); first | done | rfl) ?_; (with_reducible refine (laws_toIntS.calls k A0 c0 l0 l0 _ (Kd.C_below HR0.out HB.out) hc0 ht).mono ?_); rintro e w27 ⟨v27, rfl, ho, hb⟩; refine ⟨_, rfl, ?_⟩; have HO := Aside0.mk ho; have n0 := Aside0.mk (below_step HB.out hb); clear HB; have HB := n0; clear n0; obtain ⟨Ata, cta, eta⟩ := Kd.R_slice HO.out; subst eta; have Hta := HO; clear HO ho hb) | ((with_reducible refine gate_dst (N := 29) rfl ?_); refine goesL_ (some 29) rfl rfl Try.func35 (by kernel_rfl) rfl #[.slice A1 l1.length c1] rfl (by (try simp only [List.map_toArray, List.map_cons, List.map_nil]); first | done | rfl) ?_; (with_reducible refine (laws_toStringS.calls k A1 c1 l1 l1 _ (Kd.C_below HR1.out HB.out) hc1 hu).mono ?_); rintro e w29 ⟨v29, rfl, ho, hb⟩; refine ⟨_, rfl, ?_⟩; have HO := Aside0.mk ho; have n0 := Aside0.mk (Kd.R_below Hta.out hb); have n1 := Aside0.mk (below_step HB.out hb); clear Hta; clear HB; have Hta := n0; have HB := n1; clear n0; clear n1; obtain ⟨Atb, ctb, etb⟩ := Kd.R_slice HO.out; subst etb; have Htb := HO; clear HO ho hb) | ((with_reducible refine gate_dst (N := 30) rfl ?_); refine goesL_ (some 30) rfl rfl Try.func34 (by kernel_rfl) rfl #[.slice Ata l0.length cta, .slice Atb l1.length ctb] rfl (by (try simp only [List.map_toArray, List.map_cons, List.map_nil]); first | done | rfl) ?_; (with_reducible refine (spec_AlikeWords.calls k Ata cta l0 Atb ctb l1 p0 b _ (Kd.R_reads' Hta.out).2.2 (Kd.R_reads' Hta.out).2.1 (Kd.R_reads' Htb.out).2.2 (Kd.R_reads' Htb.out).2.1 hs).mono ?_); rintro e w30 ⟨v30, rfl, ho, hb⟩; refine ⟨_, rfl, ?_⟩; obtain ⟨Aw, cw, ew⟩ := Kd.S_slice ho; subst ew; obtain ⟨N30, eN30⟩ : ∃ N, N = w30.heap.size := ⟨_, rfl⟩; have HW := Aside0.mk (Kd.S_lower (Kd.S_mono (ok' := fun q_ => q_ < N30) (Kd.S_bound ho) (fun q_ hq => by rw [eN30]; exact hq.2.2.1)) (below_size HB.out)); have LA := Aside0.mk (Nat.le_of_eq eN30); have n0 := Aside0.mk (below_step HB.out hb); clear HB; have HB := n0; clear n0; clear ho hb Hta Htb eN30) | ((with_reducible refine gate_dst (N := 34) rfl ?_); refine goesL_ (some 34) rfl rfl Try.func13 (by kernel_rfl) rfl #[.slice A0 l0.length c0] rfl (by (try simp only [List.map_toArray, List.map_cons, List.map_nil]); first | done | rfl) ?_; (with_reducible refine (laws_toIntS.calls k A0 c0 l0 l0 _ (Kd.C_below HR0.out HB.out) hc0 ht).mono ?_); rintro e w34 ⟨v34, rfl, ho, hb⟩; refine ⟨_, rfl, ?_⟩; obtain ⟨Ax, cx, ex⟩ := Kd.R_slice ho; subst ex; obtain ⟨N34, eN34⟩ : ∃ N, N = w34.heap.size := ⟨_, rfl⟩; have HX := Aside0.mk (Kd.R_lower (Kd.R_mono (ok' := fun q_ => N30 ≤ q_ ∧ q_ < N34) (Kd.R_bound ho) (fun q_ hq => ⟨Nat.le_trans LA.out hq.2.1, by rw [eN34]; exact hq.2.2.1⟩)) (below_size HB.out)); have LB := Aside0.mk (Nat.le_of_eq eN34); have LC := Aside0.mk (show N30 ≤ N34 by rw [eN34]; exact Nat.le_trans LA.out hb.size); have n0 := Aside0.mk (Kd.S_below HW.out hb); have n1 := Aside0.mk (below_step HB.out hb); clear HW; clear HB; have HW := n0; have HB := n1; clear n0; clear n1; clear ho hb LA eN34) | ((with_reducible refine gate_dst (N := 36) rfl ?_); refine goesL_ (some 36) rfl rfl Try.func35 (by kernel_rfl) rfl #[.slice A1 l1.length c1] rfl (by (try simp only [List.map_toArray, List.map_cons, List.map_nil]); first | done | rfl) ?_; (with_reducible refine (laws_toStringS.calls k A1 c1 l1 l1 _ (Kd.C_below HR1.out HB.out) hc1 hu).mono ?_); rintro e w36 ⟨v36, rfl, ho, hb⟩; refine ⟨_, rfl, ?_⟩; obtain ⟨Ay, cy, ey⟩ := Kd.R_slice ho; subst ey; obtain ⟨N36, eN36⟩ : ∃ N, N = w36.heap.size := ⟨_, rfl⟩; have HY := Aside0.mk (Kd.R_lower (Kd.R_mono (ok' := fun q_ => N34 ≤ q_ ∧ q_ < N36) (Kd.R_bound ho) (fun q_ hq => ⟨Nat.le_trans LB.out hq.2.1, by rw [eN36]; exact hq.2.2.1⟩)) (below_size HB.out)); have LD := Aside0.mk (Nat.le_of_eq eN36); have LE := Aside0.mk (show N34 ≤ N36 by rw [eN36]; exact Nat.le_trans LB.out hb.size); have n0 := Aside0.mk (Kd.S_below HW.out hb); have n1 := Aside0.mk (Kd.R_below HX.out hb); have n2 := Aside0.mk (below_step HB.out hb); clear HW; clear HX; clear HB; have HW := n0; have HX := n1; have HB := n2; clear n0; clear n1; clear n2; clear ho hb LB eN36) | ((with_reducible refine gate_dst (N := 40) rfl ?_); refine goesL_ (some 40) rfl rfl Try.func36 (by kernel_rfl) rfl #[.slice Ax l0.length cx, .slice Ay l1.length cy] rfl (by (try simp only [List.map_toArray, List.map_cons, List.map_nil]); first | done | rfl) ?_; (with_reducible refine (impl_AlikeWords.calls k Ax cx l0 Ay cy l1 p0 b _ (Kd.R_reads' HX.out).2.2 (Kd.R_reads' HX.out).2.1 (Kd.R_reads' HY.out).2.2 (Kd.R_reads' HY.out).2.1 hi).mono ?_); rintro e w40 ⟨v40, rfl, ho, hb⟩; refine ⟨_, rfl, ?_⟩; obtain ⟨Ag, cg, eg⟩ := Kd.S_slice ho; subst eg; have HG := Aside0.mk (Kd.S_lower (Kd.S_mono (ok' := fun q_ => N36 ≤ q_) (Kd.S_bound ho) (fun q_ hq => Nat.le_trans LD.out hq.2.1)) (below_size HB.out)); have n0 := Aside0.mk (Kd.S_below HW.out hb); have n1 := Aside0.mk (Kd.R_below HX.out hb); have n2 := Aside0.mk (Kd.R_below HY.out hb); have n3 := Aside0.mk (below_step HB.out hb); clear HW; clear HX; clear HY; clear HB; have HW := n0; have HX := n1; have HY := n2; have HB := n3; clear n0; clear n1; clear n2; clear n3; clear ho hb LD) | ((with_reducible refine gate_dst (N := 45) rfl ?_); refine goesL_ (some 45) rfl rfl Try.func37 (by kernel_rfl) rfl #[.slice Ag p0.length cg, .slice Aw p0.length cw] rfl (by (try simp only [List.map_toArray, List.map_cons, List.map_nil]); first | done | rfl) ?_; (with_reducible refine (laws_eqIntSS.calls k Ag cg p0 Aw cw p0 true _ (Kd.S_reads' HG.out).2.2 (Kd.S_reads' HG.out).2.1 (Kd.S_reads' HW.out).2.2 (Kd.S_reads' HW.out).2.1 he).mono ?_); rintro e w45 ⟨rfl, hd⟩; refine ⟨_, rfl, ?_⟩; have hb := hd.below; have n0 := Aside0.mk (Kd.S_below HW.out hb); have n1 := Aside0.mk (Kd.R_below HX.out hb); have n2 := Aside0.mk (Kd.R_below HY.out hb); have n3 := Aside0.mk (Kd.S_below HG.out hb); have n4 := Aside0.mk (below_step HB.out hb); clear HW; clear HX; clear HY; clear HG; clear HB; have HW := n0; have HX := n1; have HY := n2; have HG := n3; have HB := n4; clear n0; clear n1; clear n2; clear n3; clear n4; clear hd hb) | ((with_reducible refine gate_dst (N := 54) rfl ?_); refine goesL_ (some 54) rfl rfl Try.func13 (by kernel_rfl) rfl #[.slice A0 l0.length c0] rfl (by (try simp only [List.map_toArray, List.map_cons, List.map_nil]); first | done | rfl) ?_; (with_reducible refine (laws_toIntS.calls k A0 c0 l0 l0 _ (Kd.C_below HR0.out HB.out) hc0 ht).mono ?_); rintro e w54 ⟨v54, rfl, ho, hb⟩; refine ⟨_, rfl, ?_⟩; have HO := Aside0.mk ho; have n0 := Aside0.mk (Kd.S_below HW.out hb); have n1 := Aside0.mk (Kd.R_below HX.out hb); have n2 := Aside0.mk (Kd.R_below HY.out hb); have n3 := Aside0.mk (Kd.S_below HG.out hb); have n4 := Aside0.mk (below_step HB.out hb); clear HW; clear HX; clear HY; clear HG; clear HB; have HW := n0; have HX := n1; have HY := n2; have HG := n3; have HB := n4; clear n0; clear n1; clear n2; clear n3; clear n4; obtain ⟨Atc, ctc, etc⟩ := Kd.R_slice HO.out; subst etc; have Htc := HO; clear HO ho hb) | ((with_reducible refine gate_dst (N := 55) rfl ?_); refine goesL_ (some 55) rfl rfl Try.func15 (by kernel_rfl) rfl #[.slice Ax l0.length cx, .slice Atc l0.length ctc] rfl (by (try simp only [List.map_toArray, List.map_cons, List.map_nil]); first | done | rfl) ?_; (with_reducible refine (laws_eqIntS.calls k Ax cx l0 Atc ctc l0 true _ (Kd.R_reads' HX.out).2.2 (Kd.R_reads' HX.out).2.1 (Kd.R_reads' Htc.out).2.2 (Kd.R_reads' Htc.out).2.1 hei).mono ?_); rintro e w55 ⟨rfl, hd⟩; refine ⟨_, rfl, ?_⟩; have hb := hd.below; have n0 := Aside0.mk (Kd.S_below HW.out hb); have n1 := Aside0.mk (Kd.R_below HX.out hb); have n2 := Aside0.mk (Kd.R_below HY.out hb); have n3 := Aside0.mk (Kd.S_below HG.out hb); have n4 := Aside0.mk (below_step HB.out hb); clear HW; clear HX; clear HY; clear HG; clear HB; have HW := n0; have HX := n1; have HY := n2; have HG := n3; have HB := n4; clear n0; clear n1; clear n2; clear n3; clear n4; clear hd hb; clear Htc) | ((with_reducible refine gate_dst (N := 59) rfl ?_); refine goesL_ (some 59) rfl rfl Try.func35 (by kernel_rfl) rfl #[.slice A1 l1.length c1] rfl (by (try simp only [List.map_toArray, List.map_cons, List.map_nil]); first | done | rfl) ?_; (with_reducible refine (laws_toStringS.calls k A1 c1 l1 l1 _ (Kd.C_below HR1.out HB.out) hc1 hu).mono ?_); rintro e w59 ⟨v59, rfl, ho, hb⟩; refine ⟨_, rfl, ?_⟩; have HO := Aside0.mk ho; have n0 := Aside0.mk (Kd.S_below HW.out hb); have n1 := Aside0.mk (Kd.R_below HX.out hb); have n2 := Aside0.mk (Kd.R_below HY.out hb); have n3 := Aside0.mk (Kd.S_below HG.out hb); have n4 := Aside0.mk (below_step HB.out hb); clear HW; clear HX; clear HY; clear HG; clear HB; have HW := n0; have HX := n1; have HY := n2; have HG := n3; have HB := n4; clear n0; clear n1; clear n2; clear n3; clear n4; obtain ⟨Atd, ctd, etd⟩ := Kd.R_slice HO.out; subst etd; have Htd := HO; clear HO ho hb) | ((with_reducible refine gate_dst (N := 60) rfl ?_); refine goesL_ (some 60) rfl rfl Try.func26 (by kernel_rfl) rfl #[.slice Ay l1.length cy, .slice Atd l1.length ctd] rfl (by (try simp only [List.map_toArray, List.map_cons, List.map_nil]); first | done | rfl) ?_; (with_reducible refine (laws_eqStringS.calls k Ay cy l1 Atd ctd l1 true _ (Kd.R_reads' HY.out).2.2 (Kd.R_reads' HY.out).2.1 (Kd.R_reads' Htd.out).2.2 (Kd.R_reads' Htd.out).2.1 hes).mono ?_); rintro e w60 ⟨rfl, hd⟩; refine ⟨_, rfl, ?_⟩; have hb := hd.below; have n0 := Aside0.mk (Kd.S_below HW.out hb); have n1 := Aside0.mk (Kd.R_below HX.out hb); have n2 := Aside0.mk (Kd.R_below HY.out hb); have n3 := Aside0.mk (Kd.S_below HG.out hb); have n4 := Aside0.mk (below_step HB.out hb); clear HW; clear HX; clear HY; clear HG; clear HB; have HW := n0; have HX := n1; have HY := n2; have HG := n3; have HB := n4; clear n0; clear n1; clear n2; clear n3; clear n4; clear hd hb; clear Htd) | ((with_reducible refine gate_dst (N := 64) rfl ?_); refine goesL_ (some 64) rfl rfl Try.func18 (by kernel_rfl) rfl #[.slice Ax l0.length cx, .int .i64 1] rfl (by (try simp only [List.map_toArray, List.map_cons, List.map_nil]); first | done | rfl) ?_; (with_reducible refine (laws_markIntS.calls k (fun q_ => N30 ≤ q_ ∧ q_ < N34) (.slice Ax l0.length cx) l0 1 k1 m1 w _ HB.out HX.out hm1).mono ?_); rintro e w64 ⟨rfl, _, hb, hk⟩; refine ⟨_, rfl, ?_⟩; have n0 := Aside0.mk (Kd.S_kept HW.out hk (fun q_ h1 h2 => absurd h1 (Nat.not_lt.2 h2.1))); have n1 := Aside0.mk (Kd.R_kept HY.out hk (fun q_ h1 h2 => absurd h2.2 (Nat.not_lt.2 h1.1))); have n2 := Aside0.mk (Kd.S_kept HG.out hk (fun q_ h1 h2 => absurd h2.2 (Nat.not_lt.2 (Nat.le_trans LE.out h1)))); have n3 := Aside0.mk (hb); clear HW; clear HY; clear HG; clear HB; have HW := n0; have HY := n1; have HG := n2; have HB := n3; clear n0; clear n1; clear n2; clear n3; clear hb hk HX) | ((with_reducible refine gate_dst (N := 67) rfl ?_); refine goesL_ (some 67) rfl rfl Try.func27 (by kernel_rfl) rfl #[.slice Ay l1.length cy, .int .i64 k1] rfl (by (try simp only [List.map_toArray, List.map_cons, List.map_nil]); first | done | rfl) ?_; (with_reducible refine (laws_markStringS.calls k (fun q_ => N34 ≤ q_ ∧ q_ < N36) (.slice Ay l1.length cy) l1 k1 k2 m2 w _ HB.out HY.out hm2).mono ?_); rintro e w67 ⟨rfl, _, hb, hk⟩; refine ⟨_, rfl, ?_⟩; have n0 := Aside0.mk (Kd.S_kept HW.out hk (fun q_ h1 h2 => absurd h1 (Nat.not_lt.2 (Nat.le_trans LC.out h2.1)))); have n1 := Aside0.mk (Kd.S_kept HG.out hk (fun q_ h1 h2 => absurd h2.2 (Nat.not_lt.2 h1))); have n2 := Aside0.mk (hb); clear HW; clear HG; clear HB; have HW := n0; have HG := n1; have HB := n2; clear n0; clear n1; clear n2; clear hb hk HY) | ((with_reducible refine gate_dst (N := 73) rfl ?_); (refine gate_guard (by rfl) ?_; dsimp only); refine goesL_ (some 73) rfl rfl Try.func37 (by kernel_rfl) rfl #[.slice Ag p0.length cg, .slice Aw p0.length cw] rfl (by (try simp only [List.map_toArray, List.map_cons, List.map_nil]); first | done | rfl) ?_; (with_reducible refine (laws_eqIntSS.calls k Ag cg p0 Aw cw p0 true _ (Kd.S_reads' HG.out).2.2 (Kd.S_reads' HG.out).2.1 (Kd.S_reads' HW.out).2.2 (Kd.S_reads' HW.out).2.1 he).mono ?_); rintro e w73 ⟨rfl, hd⟩; refine ⟨_, rfl, ?_⟩; have hb := hd.below; have n0 := Aside0.mk (Kd.S_below HW.out hb); have n1 := Aside0.mk (Kd.S_below HG.out hb); have n2 := Aside0.mk (below_step HB.out hb); clear HW; clear HG; clear HB; have HW := n0; have HG := n1; have HB := n2; clear n0; clear n1; clear n2; clear hd hb) | ((with_reducible refine gate_dst (N := 83) rfl ?_); refine goesL_ (some 83) rfl rfl Try.func38 (by kernel_rfl) rfl #[.slice Ag p0.length cg, .int .i64 1] rfl (by (try simp only [List.map_toArray, List.map_cons, List.map_nil]); first | done | rfl) ?_; (with_reducible refine (laws_markIntSS.calls k (fun q_ => N36 ≤ q_) (.slice Ag p0.length cg) p0 1 q p1 w _ HB.out HG.out hm3).mono ?_); rintro e w83 ⟨rfl, hy, hb, hk⟩; refine ⟨_, rfl, ?_⟩; have n0 := Aside0.mk (hy); have n1 := Aside0.mk (Kd.S_kept HW.out hk (fun q_ h1 h2 => absurd h1 (Nat.not_lt.2 (Nat.le_trans LC.out (Nat.le_trans LE.out h2))))); have n2 := Aside0.mk (hb); clear HG; clear HW; clear HB; have HG := n0; have HW := n1; have HB := n2; clear n0; clear n1; clear n2; have HL := Aside0.mk ((Kd.S_reads' HG.out).1); clear hb hk hy) | ((with_reducible refine gate_dst (N := 86) rfl ?_); refine goesL_ (some 86) rfl rfl Try.func39 (by kernel_rfl) rfl #[.slice Ag p0.length cg, .int .i64 1] rfl (by (try simp only [List.map_toArray, List.map_cons, List.map_nil]); first | done | rfl) ?_; have hc_ := laws_heldIntSS.calls k Ag cg p1 1 q _ (Kd.S_reads' HG.out).2.2 (by rw [← HL.out]; exact (Kd.S_reads' HG.out).2.1) hh; rw [← HL.out] at hc_; refine hc_.mono ?_; rintro e w86 ⟨rfl, hd⟩; refine ⟨_, rfl, ?_⟩; have hb := hd.below; have n0 := Aside0.mk (Kd.S_below HW.out hb); have n1 := Aside0.mk (Kd.S_below HG.out hb); have n2 := Aside0.mk (below_step HB.out hb); clear HW; clear HG; clear HB; have HW := n0; have HG := n1; have HB := n2; clear n0; clear n1; clear n2; clear hd hb; clear hc_) | ((with_reducible refine gate_dst (N := 94) rfl ?_); refine goesL_ (some 94) rfl rfl Try.func13 (by kernel_rfl) rfl #[.slice A0 l0.length c0] rfl (by (try simp only [List.map_toArray, List.map_cons, List.map_nil]); first | done | rfl) ?_; (with_reducible refine (laws_toIntS.calls k A0 c0 l0 l0 _ (Kd.C_below HR0.out HB.out) hc0 ht).mono ?_); rintro e w94 ⟨v94, rfl, ho, hb⟩; refine ⟨_, rfl, ?_⟩; have HO := Aside0.mk ho; have n0 := Aside0.mk (Kd.S_below HW.out hb); have n1 := Aside0.mk (Kd.S_below HG.out hb); have n2 := Aside0.mk (below_step HB.out hb); clear HW; clear HG; clear HB; have HW := n0; have HG := n1; have HB := n2; clear n0; clear n1; clear n2; obtain ⟨Ate, cte, ete⟩ := Kd.R_slice HO.out; subst ete; have Hte := HO; clear HO ho hb) | ((with_reducible refine gate_dst (N := 96) rfl ?_); refine goesL_ (some 96) rfl rfl Try.func35 (by kernel_rfl) rfl #[.slice A1 l1.length c1] rfl (by (try simp only [List.map_toArray, List.map_cons, List.map_nil]); first | done | rfl) ?_; (with_reducible refine (laws_toStringS.calls k A1 c1 l1 l1 _ (Kd.C_below HR1.out HB.out) hc1 hu).mono ?_); rintro e w96 ⟨v96, rfl, ho, hb⟩; refine ⟨_, rfl, ?_⟩; have HO := Aside0.mk ho; have n0 := Aside0.mk (Kd.S_below HW.out hb); have n1 := Aside0.mk (Kd.S_below HG.out hb); have n2 := Aside0.mk (Kd.R_below Hte.out hb); have n3 := Aside0.mk (below_step HB.out hb); clear HW; clear HG; clear Hte; clear HB; have HW := n0; have HG := n1; have Hte := n2; have HB := n3; clear n0; clear n1; clear n2; clear n3; obtain ⟨Atf, ctf, etf⟩ := Kd.R_slice HO.out; subst etf; have Htf := HO; clear HO ho hb) | ((with_reducible refine gate_dst (N := 97) rfl ?_); refine goesL_ (some 97) rfl rfl Try.func36 (by kernel_rfl) rfl #[.slice Ate l0.length cte, .slice Atf l1.length ctf] rfl (by (try simp only [List.map_toArray, List.map_cons, List.map_nil]); first | done | rfl) ?_; (with_reducible refine (impl_AlikeWords.calls k Ate cte l0 Atf ctf l1 p0 b _ (Kd.R_reads' Hte.out).2.2 (Kd.R_reads' Hte.out).2.1 (Kd.R_reads' Htf.out).2.2 (Kd.R_reads' Htf.out).2.1 hi).mono ?_); rintro e w97 ⟨v97, rfl, ho, hb⟩; refine ⟨_, rfl, ?_⟩; obtain ⟨Ah, ch, eh⟩ := Kd.S_slice ho; subst eh; have HH := Aside0.mk ho; have n0 := Aside0.mk (Kd.S_below HW.out hb); have n1 := Aside0.mk (Kd.S_below HG.out hb); have n2 := Aside0.mk (below_step HB.out hb); clear HW; clear HG; clear HB; have HW := n0; have HG := n1; have HB := n2; clear n0; clear n1; clear n2; clear ho hb Hte Htf) | ((with_reducible refine gate_dst (N := 102) rfl ?_); refine goesL_ (some 102) rfl rfl Try.func37 (by kernel_rfl) rfl #[.slice Ah p0.length ch, .slice Aw p0.length cw] rfl (by (try simp only [List.map_toArray, List.map_cons, List.map_nil]); first | done | rfl) ?_; (with_reducible refine (laws_eqIntSS.calls k Ah ch p0 Aw cw p0 true _ (Kd.S_reads' HH.out).2.2 (Kd.S_reads' HH.out).2.1 (Kd.S_reads' HW.out).2.2 (Kd.S_reads' HW.out).2.1 he).mono ?_); rintro e w102 ⟨rfl, hd⟩; refine ⟨_, rfl, ?_⟩; have hb := hd.below; have n0 := Aside0.mk (Kd.S_below HG.out hb); have n1 := Aside0.mk (below_step HB.out hb); clear HG; clear HB; have HG := n0; have HB := n1; clear n0; clear n1; clear hd hb; clear HH HW) | ((with_reducible refine gate_dst (N := 111) rfl ?_); refine goesL_ (some 111) rfl rfl Try.func39 (by kernel_rfl) rfl #[.slice Ag p0.length cg, .int .i64 1] rfl (by (try simp only [List.map_toArray, List.map_cons, List.map_nil]); first | done | rfl) ?_; have hc_ := laws_heldIntSS.calls k Ag cg p1 1 q _ (Kd.S_reads' HG.out).2.2 (by rw [← HL.out]; exact (Kd.S_reads' HG.out).2.1) hh; rw [← HL.out] at hc_; refine hc_.mono ?_; rintro e w111 ⟨rfl, hd⟩; refine ⟨_, rfl, ?_⟩; have hb := hd.below; have n0 := Aside0.mk (below_step HB.out hb); clear HB; have HB := n0; clear n0; clear hd hb; clear hc_))
  go_ret
  exact ⟨rfl, HB.out⟩
theorem laws_FnExactAlikeWords.calls (k : Nat) (A0 : Option Addr) (c0 : Nat) (l0 : List Int) (A1 : Option Addr) (c1 : Nat) (l1 : List ByteArray) (r : Bool) (w : World) (hr0 : Kd.C (Kd.int .i64) w A0 l0.length l0) (hc0 : l0.length ≤ c0) (hr1 : Kd.C Kd.string w A1 l1.length l1) (hc1 : l1.length ≤ c1) (h : laws_FnExactAlikeWords.f k l0 l1 = some r) :
    Calls Try.prog 10 #[.slice A0 l0.length c0, .slice A1 l1.length c1] w fun e w' => e = .returned (.bool r) ∧ Below w.heap.size w w' := by
  unfold laws_FnExactAlikeWords.f at h
  by_cases hb : (l0.length : Int) > 1048576
  · rw [if_pos hb] at h
    obtain rfl := Option.some.inj h
    exact laws_FnExactAlikeWords.big k A0 c0 l0 A1 c1 l1 w (decide_eq_true hb)
  rw [if_neg hb] at h
  obtain ⟨z, hz, h'⟩ := Option.bind_eq_some_iff.mp h
  clear h
  have h := h'
  clear h'
  by_cases hz1 : z < 0
  · rw [if_pos hz1] at h
    obtain rfl := Option.some.inj h
    exact laws_FnExactAlikeWords.wide k A0 c0 l0 A1 c1 l1 z w hr0 hc0 hr1 hc1 (decide_eq_false hb) hz (decide_eq_true hz1)
  rw [if_neg hz1] at h
  obtain ⟨t, ht, h'⟩ := Option.bind_eq_some_iff.mp h
  clear h
  have h := h'
  clear h'
  obtain ⟨u, hu, h'⟩ := Option.bind_eq_some_iff.mp h
  clear h
  have h := h'
  clear h'
  obtain ⟨⟨p0, b⟩, hs, h'⟩ := Option.bind_eq_some_iff.mp h
  clear h
  have h := h'
  clear h'
  obtain ⟨p2, hi, h'⟩ := Option.bind_eq_some_iff.mp h
  clear h
  have h := h'
  clear h'
  obtain ⟨e2, hei, h'⟩ := Option.bind_eq_some_iff.mp h
  clear h
  have h := h'
  clear h'
  obtain ⟨e3, hes, h'⟩ := Option.bind_eq_some_iff.mp h
  clear h
  have h := h'
  clear h'
  by_cases hc : (decide (t = l0) && (decide (u = l1) && (decide ((p0, b) = p2) && (e2 && e3)))) = true
  · rw [if_pos hc] at h
    simp only [Bool.and_eq_true, decide_eq_true_eq] at hc
    obtain ⟨rfl, rfl, rfl, rfl, rfl⟩ := hc
    unfold laws_FnExactAlikeWords.ok at h
    obtain ⟨e1, he, h'⟩ := Option.bind_eq_some_iff.mp h
    clear h
    have h := h'
    clear h'
    obtain ⟨⟨k1, m1⟩, hm1, h'⟩ := Option.bind_eq_some_iff.mp h
    clear h
    have h := h'
    clear h'
    obtain ⟨⟨k2, m2⟩, hm2, h'⟩ := Option.bind_eq_some_iff.mp h
    clear h
    have h := h'
    clear h'
    obtain ⟨⟨q, p1⟩, hm3, h'⟩ := Option.bind_eq_some_iff.mp h
    clear h
    have h := h'
    clear h'
    obtain ⟨x4, hh, h'⟩ := Option.bind_eq_some_iff.mp h
    clear h
    have h := h'
    clear h'
    by_cases hc : (e1 && (decide (0 ≤ k2) && (decide (0 ≤ q) && decide (x4 = q)))) = true
    · rw [if_pos hc] at h
      simp only [Bool.and_eq_true, decide_eq_true_eq] at hc
      obtain ⟨rfl, h1, h2, rfl⟩ := hc
      obtain rfl := Option.some.inj h
      exact laws_FnExactAlikeWords.main k A0 c0 _ A1 c1 _ z p0 b k1 m1 k2 m2 _ p1 w hr0 hc0 hr1 hc1 (decide_eq_false hb) hz (decide_eq_false hz1) ht hu hs hi he hei hes hm1 hm2 (decide_eq_false (by omega)) hm3 hh (decide_eq_false (by omega))
    · rw [if_neg hc] at h; cases h
  · rw [if_neg hc] at h; cases h

end Go.Proofs.Ytopmmmggjohkeaa.FG
