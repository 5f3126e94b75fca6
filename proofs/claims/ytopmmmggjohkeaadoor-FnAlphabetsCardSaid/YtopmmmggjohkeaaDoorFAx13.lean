-- laid by pr.py (wip/tools) over the kit's printer; Lean checks it
import Derived.Test.YtopmmmggjohkeaaDoorFAx0
import Derived.Test.YtopmmmggjohkeaaDoorFAx1
import Derived.Test.YtopmmmggjohkeaaDoorFAx2
import Derived.Test.YtopmmmggjohkeaaDoorFAx4
import Derived.Test.YtopmmmggjohkeaaDoorFAx6
import Derived.Test.YtopmmmggjohkeaaDoorFAx7
import Derived.Test.YtopmmmggjohkeaaDoorFAx8
import Derived.Test.YtopmmmggjohkeaaDoorFAx9
import Derived.Test.YtopmmmggjohkeaaDoorFAx10
import Derived.Test.YtopmmmggjohkeaaDoorFAx11
import Derived.Test.YtopmmmggjohkeaaDoorFAx12
namespace Go.Proofs.YtopmmmggjohkeaaDoor.FA
open Go.RowKit Go.Proofs.YtopmmmggjohkeaaDoorW.PrintWords Go.Proofs.YtopmmmggjohkeaaDoorW.PrintLast Go.Proofs.YtopmmmggjohkeaaDoorW.PrintMore
attribute [local go_sem] max2_int min2_int max_two min_two max_three min_three max_four min_four   -- for this text's walks alone
set_option linter.unusedVariables false
set_option linter.unusedSimpArgs false

/-! ### laws_FnAlphabets: function 3 -/
/-- What the law asks of one group of letters. -/
def laws_FnAlphabets.One (k : Nat) (co : List Int) (s : ByteArray) : Prop := s.size ≤ 1048576 ∧ ∀ i : Int, 1 ≤ i → i < (s.size : Int) → impl_LookAlike.f k co (s.extract 0 1) (s.extract i.toNat (i + 1).toNat) = some (true, true) ∧ bt s (i - 1) < bt s i
def laws_FnAlphabets.All (k : Nat) (co : List Int) (L : List ByteArray) : Prop := ∀ x : Int, 0 ≤ x → x < (L.length : Int) → laws_FnAlphabets.One k co (rdOf ByteArray.empty L x)
/-- What the law asks of one pair of words. -/
def laws_FnAlphabets.Pair (k : Nat) (u : List Int) (W : List ByteArray) (z : List Int) : Prop := 2 ≤ (z.length : Int) ∧ (0 ≤ rd z 0 ∧ rd z 0 < (W.length : Int)) ∧ (0 ≤ rd z 1 ∧ rd z 1 < (W.length : Int)) ∧ impl_LookAlike.f k u (rdOf ByteArray.empty W (rd z 0)) (rdOf ByteArray.empty W (rd z 1)) = some (true, true) ∧ rd z 0 < rd z 1
def laws_FnAlphabets.Two (k : Nat) (u : List Int) (W : List ByteArray) (P : List (List Int)) : Prop := ∀ x : Int, 0 ≤ x → x < (P.length : Int) → laws_FnAlphabets.Pair k u W (rd_L2 P x)
def laws_FnAlphabets.Time (vw : ByteArray) (vh vc n : Int) : Prop := ¬ (n < wrap64 (vh * (vw.size : Int))) ∧ ¬ (wrap64 (wrap64 (wrap64 (vh + vc) + 1) * (vw.size : Int)) < n)
def laws_FnAlphabets.Ends (c : Int) (F : List ByteArray) : Prop := (0 < c ↔ 0 < F.length)
/-- The same as checks. -/
def laws_FnAlphabets.one (k : Nat) (co : List Int) (s : ByteArray) : Bool := decide (s.size ≤ 1048576) && (List.range s.size).all fun i => decide (i = 0) || (decide (impl_LookAlike.f k co (s.extract 0 1) (s.extract i (i + 1)) = some (true, true)) && decide (bt s ((i : Int) - 1) < bt s (i : Int)))
def laws_FnAlphabets.pr (k : Nat) (u : List Int) (W : List ByteArray) (z : List Int) : Bool := decide (2 ≤ (z.length : Int)) && (decide (0 ≤ rd z 0 ∧ rd z 0 < (W.length : Int)) && (decide (0 ≤ rd z 1 ∧ rd z 1 < (W.length : Int)) && (decide (impl_LookAlike.f k u (rdOf ByteArray.empty W (rd z 0)) (rdOf ByteArray.empty W (rd z 1)) = some (true, true)) && decide (rd z 0 < rd z 1))))
def laws_FnAlphabets.tm (vw : ByteArray) (vh vc n : Int) : Bool := decide (¬ (n < wrap64 (vh * (vw.size : Int)))) && decide (¬ (wrap64 (wrap64 (wrap64 (vh + vc) + 1) * (vw.size : Int)) < n))
def laws_FnAlphabets.en (c : Int) (F : List ByteArray) : Bool := decide (0 < c) == decide (0 < F.length)
/-- True where every call answers as it should. -/
def laws_FnAlphabets.f (k : Nat) (l0 : List Int) (l1 : List Int) : Option Bool := if wrap64 ((l0.length : Int) + (l1.length : Int)) > 1048576 then some true else (spec_DrawAlikeLetters.f k l0).bind fun co => (spec_AlikeLetters.f k co).bind fun g => (spec_DrawAlikeWords.f k l1).bind fun d => (spec_AlikeWords.f k d.1 d.2).bind fun p => (spec_DrawShapesText.f k l1).bind fun S => (spec_ShapesText.f k S).bind fun t => (spec_DrawSpellTime.f k l1).bind fun v => (spec_SpellTime.f k v.1 v.2.1 v.2.2.1 v.2.2.2).bind fun n => (spec_DrawCountReadings.f k l1).bind fun x => (spec_CountReadings.f k x.1 x.2).bind fun c => (spec_FirstReadings.f k x.1 x.2).bind fun F =>
  if (decide (F.2 = c.2) && (decide (impl_AlikeLetters.f k co = some g) && (decide (impl_AlikeWords.f k d.1 d.2 = some p) && (decide (impl_ShapesText.f S = some t) && (decide (impl_SpellTime.f k v.1 v.2.1 v.2.2.1 v.2.2.2 = some n) && (decide (impl_CountReadings.f k x.1 x.2 = some c) && (decide (impl_FirstReadings.f k x.1 x.2 = some F) && (decide (laws_qTexts.f k g.1 g.1 = some true) && (decide (laws_qLists.f k p.1 p.1 = some true) && (decide (laws_qTexts.f k F.1 F.1 = some true) && (decide (impl_IsAlphabet.f co = some g.2) && (g.1.all (laws_FnAlphabets.one k co) && (p.1.all (laws_FnAlphabets.pr k d.1 d.2) && ((!n.2 || laws_FnAlphabets.tm v.2.1 v.2.2.1 v.2.2.2 n.1) && (!c.2 || laws_FnAlphabets.en c.1 F.1))))))))))))))) = true then some true else none
theorem laws_FnAlphabets.all_of (k : Nat) (co : List Int) (L : List ByteArray) (h : L.all (laws_FnAlphabets.one k co) = true) : laws_FnAlphabets.All k co L := by
  intro x hx0 hx
  have hm : rdOf ByteArray.empty L x ∈ L := by
    unfold rdOf
    rw [List.getD_eq_getElem?_getD, List.getElem?_eq_getElem (by omega : x.toNat < L.length)]
    exact List.getElem_mem _
  have h1 := List.all_eq_true.1 h _ hm
  unfold laws_FnAlphabets.one at h1
  simp only [Bool.and_eq_true, decide_eq_true_eq, List.all_eq_true, Bool.or_eq_true] at h1
  refine ⟨h1.1, fun i hi0 hi => ?_⟩
  rcases h1.2 i.toNat (List.mem_range.2 (by omega)) with h2 | h2
  · omega
  · rw [show ((i.toNat : Nat) : Int) = i from by omega] at h2
    rw [show (i + 1).toNat = i.toNat + 1 from by omega]
    exact h2
theorem laws_FnAlphabets.two_of (k : Nat) (u : List Int) (W : List ByteArray) (P : List (List Int)) (h : P.all (laws_FnAlphabets.pr k u W) = true) : laws_FnAlphabets.Two k u W P := by
  intro x hx0 hx
  have hm : rd_L2 P x ∈ P := by
    unfold rd_L2
    first
      | exact List.getElem_mem _
      | (rw [List.getD_eq_getElem?_getD, List.getElem?_eq_getElem (by omega : x.toNat < P.length)]; exact List.getElem_mem _)
  have h1 := List.all_eq_true.1 h _ hm
  unfold laws_FnAlphabets.pr at h1
  simp only [Bool.and_eq_true, decide_eq_true_eq] at h1
  exact h1
set_option maxHeartbeats 2000000 in
set_option maxRecDepth 100000 in
theorem laws_FnAlphabets.big (k : Nat) (A0 : Option Addr) (c0 : Nat) (l0 : List Int) (A1 : Option Addr) (c1 : Nat) (l1 : List Int) (w : World) (hz : decide (1048576 < wrap64 ((l0.length : Int) + (l1.length : Int))) = true) :
    Calls Tryd.prog 3 #[.slice A0 l0.length c0, .slice A1 l1.length c1] w fun e w' => e = .returned (.bool true) ∧ Below w.heap.size w w' := by
  go_enter Tryd.func3, Tryd.ntmps3
  go_wp2
  go_ret
  exact ⟨rfl, Below.refl _ _⟩
def laws_FnAlphabets.T28 : Bool × List (List Nat × List Nat) := (true, [([], []), ([], []), ([1], [1]), ([], []), ([], []), ([], []), ([5], [5]), ([3, 4, 6], [3, 4, 6]), ([0, 2, 7], [0, 2, 7]), ([8], [8]), ([9], [9]), ([9], [9]), ([10, 8, 0, 1, 2, 3, 4, 5, 6, 7, 8, 9, 10], [10]), ([11, 12, 0, 1, 2, 3, 4, 5, 6, 7, 8, 9, 10, 11, 12], [11])])
def laws_FnAlphabets.B28 : List Nat := [0, 0, 2, 0, 0, 0, 32, 120, 255, 511, 1023, 1023, 2047, 8191]
theorem laws_FnAlphabets.tab28 : rtab .any (opsOf Tryd.f3 28) = laws_FnAlphabets.T28 := by kernel_rfl
theorem laws_FnAlphabets.bits28 : waitsOk laws_FnAlphabets.T28.2 laws_FnAlphabets.B28 = true := by kernel_rfl
def laws_FnAlphabets.T29 : Bool × List (List Nat × List Nat) := (true, [([], []), ([0], [0]), ([1], [1]), ([2], [2]), ([3, 2], [2, 3]), ([2, 4], [2, 4]), ([5, 2], [5]), ([6], [6]), ([6], [6]), ([8, 6], [6, 8]), ([7, 9, 6], [6, 7, 9]), ([6], [6]), ([6], [6]), ([11, 12, 6], [6, 11, 12]), ([10, 13, 6], [6, 10, 13]), ([6, 14], [6, 14])])
def laws_FnAlphabets.B29 : List Nat := [0, 1, 3, 7, 15, 31, 63, 127, 127, 383, 1023, 127, 127, 6271, 16383, 32767]
theorem laws_FnAlphabets.tab29 : rtab .any (opsOf Tryd.f3 29) = laws_FnAlphabets.T29 := by kernel_rfl
theorem laws_FnAlphabets.bits29 : waitsOk laws_FnAlphabets.T29.2 laws_FnAlphabets.B29 = true := by kernel_rfl
def laws_FnAlphabets.T35 : Bool × List (List Nat × List Nat) := (true, [([], []), ([], []), ([], []), ([2], [2]), ([3], [3]), ([1, 4], [1, 4]), ([5], [5]), ([], []), ([], []), ([8], [8]), ([9], [9]), ([7, 10], [7, 10]), ([11], [11]), ([0, 6, 12], [0, 6, 12]), ([13], [13]), ([14], [14]), ([14], [14]), ([15, 13, 0, 1, 2, 3, 4, 5, 6, 7, 8, 9, 10, 11, 12, 13, 14, 15], [15]), ([16, 17, 0, 1, 2, 3, 4, 5, 6, 7, 8, 9, 10, 11, 12, 13, 14, 15, 16, 17], [16])])
def laws_FnAlphabets.B35 : List Nat := [0, 0, 0, 4, 12, 30, 62, 0, 0, 256, 768, 1920, 3968, 8191, 16383, 32767, 32767, 65535, 262143]
theorem laws_FnAlphabets.tab35 : rtab .any (opsOf Tryd.f3 35) = laws_FnAlphabets.T35 := by kernel_rfl
theorem laws_FnAlphabets.bits35 : waitsOk laws_FnAlphabets.T35.2 laws_FnAlphabets.B35 = true := by kernel_rfl
def laws_FnAlphabets.T36 : Bool × List (List Nat × List Nat) := (true, [([], []), ([0], [0]), ([1], [1]), ([2], [2]), ([3, 2], [2, 3]), ([2, 4], [2, 4]), ([5, 2], [5]), ([6], [6]), ([7, 6], [6, 7]), ([8, 6], [6, 8]), ([6], [6]), ([10, 6], [6, 10]), ([11, 6], [6, 11]), ([9, 12, 6], [6, 9, 12]), ([6, 13], [6, 13])])
def laws_FnAlphabets.B36 : List Nat := [0, 1, 3, 7, 15, 31, 63, 127, 255, 511, 127, 1151, 3199, 8191, 16383]
theorem laws_FnAlphabets.tab36 : rtab .any (opsOf Tryd.f3 36) = laws_FnAlphabets.T36 := by kernel_rfl
theorem laws_FnAlphabets.bits36 : waitsOk laws_FnAlphabets.T36.2 laws_FnAlphabets.B36 = true := by kernel_rfl
set_option maxHeartbeats 40000000 in
set_option maxRecDepth 100000 in
theorem laws_FnAlphabets.main (k : Nat) (A0 : Option Addr) (c0 : Nat) (l0 : List Int) (A1 : Option Addr) (c1 : Nat) (l1 : List Int) (co : List Int) (L : List ByteArray) (b1 : Bool) (u : List Int) (W : List ByteArray) (P : List (List Int)) (b2 : Bool) (S : List Int) (t : ByteArray) (b3 : Bool) (v : List Int) (vw : ByteArray) (vh vc n : Int) (b5 : Bool) (x y : List Int) (c : Int) (b7 : Bool) (F : List ByteArray) (w : World) (hr0 : Kd.C (Kd.int .u8) w A0 l0.length l0) (hc0 : l0.length ≤ c0) (hr1 : Kd.C (Kd.int .u8) w A1 l1.length l1) (hc1 : l1.length ≤ c1) (htab : Lib.TabIs Tryd.prog w "internal/strconv.uint64pow10" .u64 Lib.pow10Tab) (hz0 : decide (1048576 < wrap64 ((l0.length : Int) + (l1.length : Int))) = false)
    (hd1 : spec_DrawAlikeLetters.f k l0 = some co) (hi1 : impl_AlikeLetters.f k co = some (L, b1)) (hs1 : spec_AlikeLetters.f k co = some (L, b1)) (hd2 : spec_DrawAlikeWords.f k l1 = some (u, W)) (hi2 : impl_AlikeWords.f k u W = some (P, b2)) (hs2 : spec_AlikeWords.f k u W = some (P, b2)) (hd3 : spec_DrawShapesText.f k l1 = some S) (hi3 : impl_ShapesText.f S = some (t, b3)) (hs3 : spec_ShapesText.f k S = some (t, b3)) (hd4 : spec_DrawSpellTime.f k l1 = some (v, vw, vh, vc)) (hi4 : impl_SpellTime.f k v vw vh vc = some (n, b5)) (hs4 : spec_SpellTime.f k v vw vh vc = some (n, b5)) (hd5 : spec_DrawCountReadings.f k l1 = some (x, y)) (hi5 : impl_CountReadings.f k x y = some (c, b7)) (hs5 : spec_CountReadings.f k x y = some (c, b7)) (hi6 : impl_FirstReadings.f k x y = some (F, b7)) (hs6 : spec_FirstReadings.f k x y = some (F, b7))
    (hq1 : laws_qTexts.f k L L = some true) (hq2 : laws_qLists.f k P P = some true) (hq3 : laws_qTexts.f k F F = some true) (ha : impl_IsAlphabet.f co = some b1) (hL : laws_FnAlphabets.All k co L) (hP : laws_FnAlphabets.Two k u W P) (hN : b5 = true → laws_FnAlphabets.Time vw vh vc n) (hE : b7 = true → laws_FnAlphabets.Ends c F) :
    Calls Tryd.prog 3 #[.slice A0 l0.length c0, .slice A1 l1.length c1] w fun e w' => e = .returned (.bool true) ∧ Below w.heap.size w w' := by
  have HR0 := Aside0.mk hr0
  have HR1 := Aside0.mk hr1
  have HT : Aside0 (∀ w_ : World, Below w.heap.size w w_ → Lib.TabIs Tryd.prog w_ "internal/strconv.uint64pow10" .u64 Lib.pow10Tab) := Aside0.mk (Lib.tabBelow_of_tabIs htab)
  have HA := Aside0.mk hL
  have HP := Aside0.mk hP
  have HN := Aside0.mk hN
  have HE := Aside0.mk hE
  have HB := Aside0.mk (Below.refl w.heap.size w)
  have k1 : (b1 != b1) = false := bne_self_eq_false b1
  have k2 : (b2 != b2) = false := bne_self_eq_false b2
  have k3 : (b3 != b3) = false := bne_self_eq_false b3
  have k4 : (t.toList != t.toList) = false := bne_self_eq_false _
  have k5 : (b5 != b5) = false := bne_self_eq_false b5
  have k6 : (n != n) = false := bne_self_eq_false n
  have k7 : (b7 != b7) = false := bne_self_eq_false b7
  have k8 : (c != c) = false := bne_self_eq_false c
  clear hr0 hr1 htab hL hP hN hE
  go_enter Tryd.func3, Tryd.ntmps3
  go_upto_region 20 with (first | ((with_reducible refine gate_dst (N := 55) rfl ?_); refine goesL_ (some 55) rfl rfl Tryd.func4 (by kernel_rfl) rfl #[.slice A0 l0.length c0] rfl (by (try simp only [List.map_toArray, List.map_cons, List.map_nil]); first | done | rfl) ?_; (with_reducible refine (spec_DrawAlikeLetters.calls k A0 c0 l0 co _ (Kd.C_below HR0.out HB.out) hc0 hd1).mono ?_); rintro e w55 ⟨v55, rfl, ho, hb⟩; refine ⟨_, rfl, ?_⟩; obtain ⟨Aco, cco, eco⟩ := Kd.R_slice ho; subst eco; have HO := Aside0.mk (Kd.R_lower ho (below_size HB.out)); have n0 := Aside0.mk (below_step HB.out hb); clear HB; have HB := n0; clear n0; have Hco := HO; clear HO ho hb) | ((with_reducible refine gate_dst (N := 58) rfl ?_); refine goesL_ (some 58) rfl rfl Tryd.func5 (by kernel_rfl) rfl #[.slice Aco co.length cco] rfl (by (try simp only [List.map_toArray, List.map_cons, List.map_nil]); first | done | rfl) ?_; (with_reducible refine (impl_AlikeLetters.calls k Aco cco co L b1 _ (Kd.R_reads' Hco.out).2.2 (Kd.R_reads' Hco.out).2.1 hi1).mono ?_); rintro e w58 ⟨v58, rfl, ho, hb⟩; refine ⟨_, rfl, ?_⟩; obtain ⟨Ali, cli, eli⟩ := Kd.R_slice ho; subst eli; have HO := Aside0.mk (Kd.R_lower ho (below_size HB.out)); have n0 := Aside0.mk (Kd.R_below Hco.out hb); have n1 := Aside0.mk (below_step HB.out hb); clear Hco; clear HB; have Hco := n0; have HB := n1; clear n0; clear n1; have Hli := HO; clear HO ho hb) | ((with_reducible refine gate_dst (N := 63) rfl ?_); refine goesL_ (some 63) rfl rfl Tryd.func6 (by kernel_rfl) rfl #[.slice Aco co.length cco] rfl (by (try simp only [List.map_toArray, List.map_cons, List.map_nil]); first | done | rfl) ?_; (with_reducible refine (spec_AlikeLetters.calls k Aco cco co L b1 _ (Kd.R_reads' Hco.out).2.2 (Kd.R_reads' Hco.out).2.1 hs1).mono ?_); rintro e w63 ⟨v63, rfl, ho, hb⟩; refine ⟨_, rfl, ?_⟩; obtain ⟨Alm, clm, elm⟩ := Kd.R_slice ho; subst elm; have HO := Aside0.mk (Kd.R_lower ho (below_size HB.out)); have n0 := Aside0.mk (Kd.R_below Hco.out hb); have n1 := Aside0.mk (Kd.R_below Hli.out hb); have n2 := Aside0.mk (below_step HB.out hb); clear Hco; clear Hli; clear HB; have Hco := n0; have Hli := n1; have HB := n2; clear n0; clear n1; clear n2; have Hlm := HO; clear HO ho hb) | ((with_reducible refine gate_dst (N := 68) rfl ?_); refine goesL_ (some 68) rfl rfl Tryd.func7 (by kernel_rfl) rfl #[.slice A1 l1.length c1] rfl (by (try simp only [List.map_toArray, List.map_cons, List.map_nil]); first | done | rfl) ?_; (with_reducible refine (spec_DrawAlikeWords.calls k A1 c1 l1 u W _ (Kd.C_below HR1.out HB.out) hc1 hd2).mono ?_); rintro e w68 ⟨v68, u68, rfl, ho, ho2, hb⟩; refine ⟨_, rfl, ?_⟩; obtain ⟨Au, cu, eu⟩ := Kd.R_slice ho; subst eu; obtain ⟨Aw, cw, ew⟩ := Kd.R_slice ho2; subst ew; have HO := Aside0.mk (Kd.R_lower (ho) (below_size HB.out)); have HO2 := Aside0.mk (Kd.R_lower (ho2) (below_size HB.out)); have n0 := Aside0.mk (Kd.R_below Hco.out hb); have n1 := Aside0.mk (Kd.R_below Hli.out hb); have n2 := Aside0.mk (Kd.R_below Hlm.out hb); have n3 := Aside0.mk (below_step HB.out hb); clear Hco; clear Hli; clear Hlm; clear HB; have Hco := n0; have Hli := n1; have Hlm := n2; have HB := n3; clear n0; clear n1; clear n2; clear n3; have Hu := HO; have Hw := HO2; clear HO HO2 ho ho2 hb) | ((with_reducible refine gate_dst (N := 74) rfl ?_); refine goesL_ (some 74) rfl rfl Tryd.func8 (by kernel_rfl) rfl #[.slice Au u.length cu, .slice Aw W.length cw] rfl (by (try simp only [List.map_toArray, List.map_cons, List.map_nil]); first | done | rfl) ?_; (with_reducible refine (impl_AlikeWords.calls k Au cu u Aw cw W P b2 _ (Kd.R_reads' Hu.out).2.2 (Kd.R_reads' Hu.out).2.1 (Kd.R_reads' Hw.out).2.2 (Kd.R_reads' Hw.out).2.1 hi2).mono ?_); rintro e w74 ⟨v74, rfl, ho, hb⟩; refine ⟨_, rfl, ?_⟩; obtain ⟨Api, cpi, epi⟩ := Kd.S_slice ho; subst epi; have HO := Aside0.mk (Kd.S_lower ho (below_size HB.out)); have n0 := Aside0.mk (Kd.R_below Hco.out hb); have n1 := Aside0.mk (Kd.R_below Hli.out hb); have n2 := Aside0.mk (Kd.R_below Hlm.out hb); have n3 := Aside0.mk (Kd.R_below Hu.out hb); have n4 := Aside0.mk (Kd.R_below Hw.out hb); have n5 := Aside0.mk (below_step HB.out hb); clear Hco; clear Hli; clear Hlm; clear Hu; clear Hw; clear HB; have Hco := n0; have Hli := n1; have Hlm := n2; have Hu := n3; have Hw := n4; have HB := n5; clear n0; clear n1; clear n2; clear n3; clear n4; clear n5; have Hpi := HO; clear HO ho hb) | ((with_reducible refine gate_dst (N := 80) rfl ?_); refine goesL_ (some 80) rfl rfl Tryd.func9 (by kernel_rfl) rfl #[.slice Au u.length cu, .slice Aw W.length cw] rfl (by (try simp only [List.map_toArray, List.map_cons, List.map_nil]); first | done | rfl) ?_; (with_reducible refine (spec_AlikeWords.calls k Au cu u Aw cw W P b2 _ (Kd.R_reads' Hu.out).2.2 (Kd.R_reads' Hu.out).2.1 (Kd.R_reads' Hw.out).2.2 (Kd.R_reads' Hw.out).2.1 hs2).mono ?_); rintro e w80 ⟨v80, rfl, ho, hb⟩; refine ⟨_, rfl, ?_⟩; obtain ⟨Aps, cps, eps⟩ := Kd.S_slice ho; subst eps; have HO := Aside0.mk (Kd.S_lower ho (below_size HB.out)); have n0 := Aside0.mk (Kd.R_below Hco.out hb); have n1 := Aside0.mk (Kd.R_below Hli.out hb); have n2 := Aside0.mk (Kd.R_below Hlm.out hb); have n3 := Aside0.mk (Kd.R_below Hu.out hb); have n4 := Aside0.mk (Kd.R_below Hw.out hb); have n5 := Aside0.mk (Kd.S_below Hpi.out hb); have n6 := Aside0.mk (below_step HB.out hb); clear Hco; clear Hli; clear Hlm; clear Hu; clear Hw; clear Hpi; clear HB; have Hco := n0; have Hli := n1; have Hlm := n2; have Hu := n3; have Hw := n4; have Hpi := n5; have HB := n6; clear n0; clear n1; clear n2; clear n3; clear n4; clear n5; clear n6; have Hps := HO; clear HO ho hb) | ((with_reducible refine gate_dst (N := 84) rfl ?_); refine goesL_ (some 84) rfl rfl Tryd.func10 (by kernel_rfl) rfl #[.slice A1 l1.length c1] rfl (by (try simp only [List.map_toArray, List.map_cons, List.map_nil]); first | done | rfl) ?_; (with_reducible refine (spec_DrawShapesText.calls k A1 c1 l1 S _ (Kd.C_below HR1.out HB.out) hc1 hd3).mono ?_); rintro e w84 ⟨v84, rfl, ho, hb⟩; refine ⟨_, rfl, ?_⟩; obtain ⟨As, cs, es⟩ := Kd.R_slice ho; subst es; have HO := Aside0.mk (Kd.R_lower ho (below_size HB.out)); have n0 := Aside0.mk (Kd.R_below Hco.out hb); have n1 := Aside0.mk (Kd.R_below Hli.out hb); have n2 := Aside0.mk (Kd.R_below Hlm.out hb); have n3 := Aside0.mk (Kd.R_below Hu.out hb); have n4 := Aside0.mk (Kd.R_below Hw.out hb); have n5 := Aside0.mk (Kd.S_below Hpi.out hb); have n6 := Aside0.mk (Kd.S_below Hps.out hb); have n7 := Aside0.mk (below_step HB.out hb); clear Hco; clear Hli; clear Hlm; clear Hu; clear Hw; clear Hpi; clear Hps; clear HB; have Hco := n0; have Hli := n1; have Hlm := n2; have Hu := n3; have Hw := n4; have Hpi := n5; have Hps := n6; have HB := n7; clear n0; clear n1; clear n2; clear n3; clear n4; clear n5; clear n6; clear n7; have Hs := HO; clear HO ho hb) | ((with_reducible refine gate_dst (N := 87) rfl ?_); refine goesL_ (some 87) rfl rfl Tryd.func11 (by kernel_rfl) rfl #[.slice As S.length cs] rfl (by (try simp only [List.map_toArray, List.map_cons, List.map_nil]); first | done | rfl) ?_; (with_reducible refine (impl_ShapesText.calls As cs S t b3 _ (Kd.R_reads' Hs.out).2.2 (Kd.R_reads' Hs.out).2.1 (HT.out _ HB.out) hi3).mono ?_); rintro e w87 ⟨rfl, hb⟩; refine ⟨_, rfl, ?_⟩; have n0 := Aside0.mk (Kd.R_below Hco.out hb); have n1 := Aside0.mk (Kd.R_below Hli.out hb); have n2 := Aside0.mk (Kd.R_below Hlm.out hb); have n3 := Aside0.mk (Kd.R_below Hu.out hb); have n4 := Aside0.mk (Kd.R_below Hw.out hb); have n5 := Aside0.mk (Kd.S_below Hpi.out hb); have n6 := Aside0.mk (Kd.S_below Hps.out hb); have n7 := Aside0.mk (Kd.R_below Hs.out hb); have n8 := Aside0.mk (below_step HB.out hb); clear Hco; clear Hli; clear Hlm; clear Hu; clear Hw; clear Hpi; clear Hps; clear Hs; clear HB; have Hco := n0; have Hli := n1; have Hlm := n2; have Hu := n3; have Hw := n4; have Hpi := n5; have Hps := n6; have Hs := n7; have HB := n8; clear n0; clear n1; clear n2; clear n3; clear n4; clear n5; clear n6; clear n7; clear n8; clear hb) | ((with_reducible refine gate_dst (N := 92) rfl ?_); refine goesL_ (some 92) rfl rfl Tryd.func12 (by kernel_rfl) rfl #[.slice As S.length cs] rfl (by (try simp only [List.map_toArray, List.map_cons, List.map_nil]); first | done | rfl) ?_; (with_reducible refine (spec_ShapesText.calls k As cs S t b3 _ (Kd.R_reads' Hs.out).2.2 (Kd.R_reads' Hs.out).2.1 hs3).mono ?_); rintro e w92 ⟨rfl, hb⟩; refine ⟨_, rfl, ?_⟩; have n0 := Aside0.mk (Kd.R_below Hco.out hb); have n1 := Aside0.mk (Kd.R_below Hli.out hb); have n2 := Aside0.mk (Kd.R_below Hlm.out hb); have n3 := Aside0.mk (Kd.R_below Hu.out hb); have n4 := Aside0.mk (Kd.R_below Hw.out hb); have n5 := Aside0.mk (Kd.S_below Hpi.out hb); have n6 := Aside0.mk (Kd.S_below Hps.out hb); have n7 := Aside0.mk (below_step HB.out hb); clear Hco; clear Hli; clear Hlm; clear Hu; clear Hw; clear Hpi; clear Hps; clear HB; have Hco := n0; have Hli := n1; have Hlm := n2; have Hu := n3; have Hw := n4; have Hpi := n5; have Hps := n6; have HB := n7; clear n0; clear n1; clear n2; clear n3; clear n4; clear n5; clear n6; clear n7; clear hb Hs) | ((with_reducible refine gate_dst (N := 97) rfl ?_); refine goesL_ (some 97) rfl rfl Tryd.func13 (by kernel_rfl) rfl #[.slice A1 l1.length c1] rfl (by (try simp only [List.map_toArray, List.map_cons, List.map_nil]); first | done | rfl) ?_; (with_reducible refine (spec_DrawSpellTime.calls k A1 c1 l1 v vw vh vc _ (Kd.C_below HR1.out HB.out) hc1 hd4).mono ?_); rintro e w97 ⟨v97, rfl, ho, hb⟩; refine ⟨_, rfl, ?_⟩; obtain ⟨Av, cv, ev⟩ := Kd.R_slice ho; subst ev; have HO := Aside0.mk (Kd.R_lower ho (below_size HB.out)); have n0 := Aside0.mk (Kd.R_below Hco.out hb); have n1 := Aside0.mk (Kd.R_below Hli.out hb); have n2 := Aside0.mk (Kd.R_below Hlm.out hb); have n3 := Aside0.mk (Kd.R_below Hu.out hb); have n4 := Aside0.mk (Kd.R_below Hw.out hb); have n5 := Aside0.mk (Kd.S_below Hpi.out hb); have n6 := Aside0.mk (Kd.S_below Hps.out hb); have n7 := Aside0.mk (below_step HB.out hb); clear Hco; clear Hli; clear Hlm; clear Hu; clear Hw; clear Hpi; clear Hps; clear HB; have Hco := n0; have Hli := n1; have Hlm := n2; have Hu := n3; have Hw := n4; have Hpi := n5; have Hps := n6; have HB := n7; clear n0; clear n1; clear n2; clear n3; clear n4; clear n5; clear n6; clear n7; have Hv := HO; clear HO ho hb) | ((with_reducible refine gate_dst (N := 107) rfl ?_); refine goesL_ (some 107) rfl rfl Tryd.func14 (by kernel_rfl) rfl #[.slice Av v.length cv, .string vw, .int .i64 vh, .int .i64 vc] rfl (by (try simp only [List.map_toArray, List.map_cons, List.map_nil]); first | done | rfl) ?_; (with_reducible refine (impl_SpellTime.calls k Av cv v vw vh vc n b5 _ (Kd.R_reads' Hv.out).2.2 (Kd.R_reads' Hv.out).2.1 hi4).mono ?_); rintro e w107 ⟨rfl, hb⟩; refine ⟨_, rfl, ?_⟩; have n0 := Aside0.mk (Kd.R_below Hco.out hb); have n1 := Aside0.mk (Kd.R_below Hli.out hb); have n2 := Aside0.mk (Kd.R_below Hlm.out hb); have n3 := Aside0.mk (Kd.R_below Hu.out hb); have n4 := Aside0.mk (Kd.R_below Hw.out hb); have n5 := Aside0.mk (Kd.S_below Hpi.out hb); have n6 := Aside0.mk (Kd.S_below Hps.out hb); have n7 := Aside0.mk (Kd.R_below Hv.out hb); have n8 := Aside0.mk (below_step HB.out hb); clear Hco; clear Hli; clear Hlm; clear Hu; clear Hw; clear Hpi; clear Hps; clear Hv; clear HB; have Hco := n0; have Hli := n1; have Hlm := n2; have Hu := n3; have Hw := n4; have Hpi := n5; have Hps := n6; have Hv := n7; have HB := n8; clear n0; clear n1; clear n2; clear n3; clear n4; clear n5; clear n6; clear n7; clear n8; clear hb) | ((with_reducible refine gate_dst (N := 115) rfl ?_); refine goesL_ (some 115) rfl rfl Tryd.func15 (by kernel_rfl) rfl #[.slice Av v.length cv, .string vw, .int .i64 vh, .int .i64 vc] rfl (by (try simp only [List.map_toArray, List.map_cons, List.map_nil]); first | done | rfl) ?_; (with_reducible refine (spec_SpellTime.calls k Av cv v vw vh vc n b5 _ (Kd.R_reads' Hv.out).2.2 (Kd.R_reads' Hv.out).2.1 hs4).mono ?_); rintro e w115 ⟨rfl, hb⟩; refine ⟨_, rfl, ?_⟩; have n0 := Aside0.mk (Kd.R_below Hco.out hb); have n1 := Aside0.mk (Kd.R_below Hli.out hb); have n2 := Aside0.mk (Kd.R_below Hlm.out hb); have n3 := Aside0.mk (Kd.R_below Hu.out hb); have n4 := Aside0.mk (Kd.R_below Hw.out hb); have n5 := Aside0.mk (Kd.S_below Hpi.out hb); have n6 := Aside0.mk (Kd.S_below Hps.out hb); have n7 := Aside0.mk (below_step HB.out hb); clear Hco; clear Hli; clear Hlm; clear Hu; clear Hw; clear Hpi; clear Hps; clear HB; have Hco := n0; have Hli := n1; have Hlm := n2; have Hu := n3; have Hw := n4; have Hpi := n5; have Hps := n6; have HB := n7; clear n0; clear n1; clear n2; clear n3; clear n4; clear n5; clear n6; clear n7; clear hb Hv) | ((with_reducible refine gate_dst (N := 120) rfl ?_); refine goesL_ (some 120) rfl rfl Tryd.func16 (by kernel_rfl) rfl #[.slice A1 l1.length c1] rfl (by (try simp only [List.map_toArray, List.map_cons, List.map_nil]); first | done | rfl) ?_; (with_reducible refine (spec_DrawCountReadings.calls k A1 c1 l1 x y _ (Kd.C_below HR1.out HB.out) hc1 hd5).mono ?_); rintro e w120 ⟨v120, u120, rfl, ho, ho2, hb⟩; refine ⟨_, rfl, ?_⟩; obtain ⟨Ax, cx, ex⟩ := Kd.R_slice ho; subst ex; obtain ⟨Ay, cy, ey⟩ := Kd.R_slice ho2; subst ey; have HO := Aside0.mk (Kd.R_lower (Kd.R_mono (ho) (fun _ _ => trivial)) (below_size HB.out)); have HO2 := Aside0.mk (Kd.R_lower (Kd.R_mono (ho2) (fun _ _ => trivial)) (below_size HB.out)); have n0 := Aside0.mk (Kd.R_below Hco.out hb); have n1 := Aside0.mk (Kd.R_below Hli.out hb); have n2 := Aside0.mk (Kd.R_below Hlm.out hb); have n3 := Aside0.mk (Kd.R_below Hu.out hb); have n4 := Aside0.mk (Kd.R_below Hw.out hb); have n5 := Aside0.mk (Kd.S_below Hpi.out hb); have n6 := Aside0.mk (Kd.S_below Hps.out hb); have n7 := Aside0.mk (below_step HB.out hb); clear Hco; clear Hli; clear Hlm; clear Hu; clear Hw; clear Hpi; clear Hps; clear HB; have Hco := n0; have Hli := n1; have Hlm := n2; have Hu := n3; have Hw := n4; have Hpi := n5; have Hps := n6; have HB := n7; clear n0; clear n1; clear n2; clear n3; clear n4; clear n5; clear n6; clear n7; have Hx := HO; have Hy := HO2; clear HO HO2 ho ho2 hb) | ((with_reducible refine gate_dst (N := 126) rfl ?_); refine goesL_ (some 126) rfl rfl Tryd.func17 (by kernel_rfl) rfl #[.slice Ax x.length cx, .slice Ay y.length cy] rfl (by (try simp only [List.map_toArray, List.map_cons, List.map_nil]); first | done | rfl) ?_; (with_reducible refine (impl_CountReadings.calls k Ax cx x Ay cy y c b7 _ (Kd.R_reads' Hx.out).2.2 (Kd.R_reads' Hx.out).2.1 (Kd.R_reads' Hy.out).2.2 (Kd.R_reads' Hy.out).2.1 hi5).mono ?_); rintro e w126 ⟨rfl, hb⟩; refine ⟨_, rfl, ?_⟩; have n0 := Aside0.mk (Kd.R_below Hco.out hb); have n1 := Aside0.mk (Kd.R_below Hli.out hb); have n2 := Aside0.mk (Kd.R_below Hlm.out hb); have n3 := Aside0.mk (Kd.R_below Hu.out hb); have n4 := Aside0.mk (Kd.R_below Hw.out hb); have n5 := Aside0.mk (Kd.S_below Hpi.out hb); have n6 := Aside0.mk (Kd.S_below Hps.out hb); have n7 := Aside0.mk (Kd.R_below Hx.out hb); have n8 := Aside0.mk (Kd.R_below Hy.out hb); have n9 := Aside0.mk (below_step HB.out hb); clear Hco; clear Hli; clear Hlm; clear Hu; clear Hw; clear Hpi; clear Hps; clear Hx; clear Hy; clear HB; have Hco := n0; have Hli := n1; have Hlm := n2; have Hu := n3; have Hw := n4; have Hpi := n5; have Hps := n6; have Hx := n7; have Hy := n8; have HB := n9; clear n0; clear n1; clear n2; clear n3; clear n4; clear n5; clear n6; clear n7; clear n8; clear n9; clear hb) | ((with_reducible refine gate_dst (N := 132) rfl ?_); refine goesL_ (some 132) rfl rfl Tryd.func18 (by kernel_rfl) rfl #[.slice Ax x.length cx, .slice Ay y.length cy] rfl (by (try simp only [List.map_toArray, List.map_cons, List.map_nil]); first | done | rfl) ?_; (with_reducible refine (spec_CountReadings.calls k Ax cx x Ay cy y c b7 _ (Kd.R_reads' Hx.out).2.2 (Kd.R_reads' Hx.out).2.1 (Kd.R_reads' Hy.out).2.2 (Kd.R_reads' Hy.out).2.1 hs5).mono ?_); rintro e w132 ⟨rfl, hb⟩; refine ⟨_, rfl, ?_⟩; have n0 := Aside0.mk (Kd.R_below Hco.out hb); have n1 := Aside0.mk (Kd.R_below Hli.out hb); have n2 := Aside0.mk (Kd.R_below Hlm.out hb); have n3 := Aside0.mk (Kd.R_below Hu.out hb); have n4 := Aside0.mk (Kd.R_below Hw.out hb); have n5 := Aside0.mk (Kd.S_below Hpi.out hb); have n6 := Aside0.mk (Kd.S_below Hps.out hb); have n7 := Aside0.mk (Kd.R_below Hx.out hb); have n8 := Aside0.mk (Kd.R_below Hy.out hb); have n9 := Aside0.mk (below_step HB.out hb); clear Hco; clear Hli; clear Hlm; clear Hu; clear Hw; clear Hpi; clear Hps; clear Hx; clear Hy; clear HB; have Hco := n0; have Hli := n1; have Hlm := n2; have Hu := n3; have Hw := n4; have Hpi := n5; have Hps := n6; have Hx := n7; have Hy := n8; have HB := n9; clear n0; clear n1; clear n2; clear n3; clear n4; clear n5; clear n6; clear n7; clear n8; clear n9; clear hb) | ((with_reducible refine gate_dst (N := 138) rfl ?_); refine goesL_ (some 138) rfl rfl Tryd.func19 (by kernel_rfl) rfl #[.slice Ax x.length cx, .slice Ay y.length cy] rfl (by (try simp only [List.map_toArray, List.map_cons, List.map_nil]); first | done | rfl) ?_; (with_reducible refine (impl_FirstReadings.calls k Ax cx x Ay cy y F b7 _ (Kd.R_reads' Hx.out).2.2 (Kd.R_reads' Hx.out).2.1 (Kd.R_reads' Hy.out).2.2 (Kd.R_reads' Hy.out).2.1 hi6).mono ?_); rintro e w138 ⟨v138, V138, rfl, hcut, ho, hb⟩; obtain ⟨Ai, ci, rfl, rfl⟩ := hcut; refine ⟨_, rfl, ?_⟩; have HO := Aside0.mk (Kd.R_lower ho (below_size HB.out)); have n0 := Aside0.mk (Kd.R_below Hco.out hb); have n1 := Aside0.mk (Kd.R_below Hli.out hb); have n2 := Aside0.mk (Kd.R_below Hlm.out hb); have n3 := Aside0.mk (Kd.R_below Hu.out hb); have n4 := Aside0.mk (Kd.R_below Hw.out hb); have n5 := Aside0.mk (Kd.S_below Hpi.out hb); have n6 := Aside0.mk (Kd.S_below Hps.out hb); have n7 := Aside0.mk (Kd.R_below Hx.out hb); have n8 := Aside0.mk (Kd.R_below Hy.out hb); have n9 := Aside0.mk (below_step HB.out hb); clear Hco; clear Hli; clear Hlm; clear Hu; clear Hw; clear Hpi; clear Hps; clear Hx; clear Hy; clear HB; have Hco := n0; have Hli := n1; have Hlm := n2; have Hu := n3; have Hw := n4; have Hpi := n5; have Hps := n6; have Hx := n7; have Hy := n8; have HB := n9; clear n0; clear n1; clear n2; clear n3; clear n4; clear n5; clear n6; clear n7; clear n8; clear n9; have Hi := HO; clear HO ho hb) | ((with_reducible refine gate_dst (N := 144) rfl ?_); refine goesL_ (some 144) rfl rfl Tryd.func20 (by kernel_rfl) rfl #[.slice Ax x.length cx, .slice Ay y.length cy] rfl (by (try simp only [List.map_toArray, List.map_cons, List.map_nil]); first | done | rfl) ?_; (with_reducible refine (spec_FirstReadings.calls k Ax cx x Ay cy y F b7 _ (Kd.R_reads' Hx.out).2.2 (Kd.R_reads' Hx.out).2.1 (Kd.R_reads' Hy.out).2.2 (Kd.R_reads' Hy.out).2.1 hs6).mono ?_); rintro e w144 ⟨v144, rfl, ho, hb⟩; refine ⟨_, rfl, ?_⟩; obtain ⟨Af, cf, ef⟩ := Kd.R_slice ho; subst ef; have HO := Aside0.mk (Kd.R_lower ho (below_size HB.out)); have n0 := Aside0.mk (Kd.R_below Hco.out hb); have n1 := Aside0.mk (Kd.R_below Hli.out hb); have n2 := Aside0.mk (Kd.R_below Hlm.out hb); have n3 := Aside0.mk (Kd.R_below Hu.out hb); have n4 := Aside0.mk (Kd.R_below Hw.out hb); have n5 := Aside0.mk (Kd.S_below Hpi.out hb); have n6 := Aside0.mk (Kd.S_below Hps.out hb); have n7 := Aside0.mk (Kd.R_below Hi.out hb); have n8 := Aside0.mk (below_step HB.out hb); clear Hco; clear Hli; clear Hlm; clear Hu; clear Hw; clear Hpi; clear Hps; clear Hi; clear HB; have Hco := n0; have Hli := n1; have Hlm := n2; have Hu := n3; have Hw := n4; have Hpi := n5; have Hps := n6; have Hi := n7; have HB := n8; clear n0; clear n1; clear n2; clear n3; clear n4; clear n5; clear n6; clear n7; clear n8; have Hf := HO; clear HO ho hb Hx Hy))
  clear hd1 hi1 hs1 hd2 hi2 hs2 hd3 hi3 hs3 hd4 hi4 hs4 hd5 hi5 hs5 hi6 hs6 hz0
  clear HR0 HR1 HT
  go_upto_region 22 with (first | (go_at_call 21; (with_reducible refine (laws_qTexts.calls k Ali cli L Alm clm L true _ (Kd.R_reads' Hli.out).2.2 (Kd.R_reads' Hli.out).2.1 (Kd.R_reads' Hlm.out).2.2 (Kd.R_reads' Hlm.out).2.1 hq1).mono ?_); rintro e w153 ⟨rfl, hd⟩; have hb := hd.below; have n0 := Aside0.mk (Kd.R_below Hco.out hb); have n1 := Aside0.mk (Kd.R_below Hlm.out hb); have n2 := Aside0.mk (Kd.R_below Hu.out hb); have n3 := Aside0.mk (Kd.R_below Hw.out hb); have n4 := Aside0.mk (Kd.S_below Hpi.out hb); have n5 := Aside0.mk (Kd.S_below Hps.out hb); have n6 := Aside0.mk (Kd.R_below Hi.out hb); have n7 := Aside0.mk (Kd.R_below Hf.out hb); have n8 := Aside0.mk (below_step HB.out hb); clear Hco; clear Hlm; clear Hu; clear Hw; clear Hpi; clear Hps; clear Hi; clear Hf; clear HB; have Hco := n0; have Hlm := n1; have Hu := n2; have Hw := n3; have Hpi := n4; have Hps := n5; have Hi := n6; have Hf := n7; have HB := n8; clear n0; clear n1; clear n2; clear n3; clear n4; clear n5; clear n6; clear n7; clear n8; clear hd hb Hli; dsimp only) | (go_at_call 22; (with_reducible refine (laws_qLists.calls k Api cpi P Aps cps P true _ (Kd.S_reads' Hpi.out).2.2 (Kd.S_reads' Hpi.out).2.1 (Kd.S_reads' Hps.out).2.2 (Kd.S_reads' Hps.out).2.1 hq2).mono ?_); rintro e w164 ⟨rfl, hd⟩; have hb := hd.below; have n0 := Aside0.mk (Kd.R_below Hco.out hb); have n1 := Aside0.mk (Kd.R_below Hlm.out hb); have n2 := Aside0.mk (Kd.R_below Hu.out hb); have n3 := Aside0.mk (Kd.R_below Hw.out hb); have n4 := Aside0.mk (Kd.S_below Hps.out hb); have n5 := Aside0.mk (Kd.R_below Hi.out hb); have n6 := Aside0.mk (Kd.R_below Hf.out hb); have n7 := Aside0.mk (below_step HB.out hb); clear Hco; clear Hlm; clear Hu; clear Hw; clear Hps; clear Hi; clear Hf; clear HB; have Hco := n0; have Hlm := n1; have Hu := n2; have Hw := n3; have Hps := n4; have Hi := n5; have Hf := n6; have HB := n7; clear n0; clear n1; clear n2; clear n3; clear n4; clear n5; clear n6; clear n7; clear hd hb Hpi; dsimp only) | (go_at_call 21; (with_reducible refine (laws_qTexts.calls k Ai F.length F Af cf F true _ (Kd.R_reads' Hi.out).2.2 (Nat.le_refl _) (Kd.R_reads' Hf.out).2.2 (Kd.R_reads' Hf.out).2.1 hq3).mono ?_); rintro e w205 ⟨rfl, hd⟩; have hb := hd.below; have n0 := Aside0.mk (Kd.R_below Hco.out hb); have n1 := Aside0.mk (Kd.R_below Hlm.out hb); have n2 := Aside0.mk (Kd.R_below Hu.out hb); have n3 := Aside0.mk (Kd.R_below Hw.out hb); have n4 := Aside0.mk (Kd.S_below Hps.out hb); have n5 := Aside0.mk (below_step HB.out hb); clear Hco; clear Hlm; clear Hu; clear Hw; clear Hps; clear HB; have Hco := n0; have Hlm := n1; have Hu := n2; have Hw := n3; have Hps := n4; have HB := n5; clear n0; clear n1; clear n2; clear n3; clear n4; clear n5; clear hd hb Hi Hf; dsimp only) | (go_at_call 23; (with_reducible refine (impl_IsAlphabet.calls Aco cco co b1 _ (Kd.R_reads' Hco.out).2.2 (Kd.R_reads' Hco.out).2.1 ha).mono ?_); rintro e w211 ⟨rfl, hb⟩; have n0 := Aside0.mk (Kd.R_below Hco.out hb); have n1 := Aside0.mk (Kd.R_below Hlm.out hb); have n2 := Aside0.mk (Kd.R_below Hu.out hb); have n3 := Aside0.mk (Kd.R_below Hw.out hb); have n4 := Aside0.mk (Kd.S_below Hps.out hb); have n5 := Aside0.mk (below_step HB.out hb); clear Hco; clear Hlm; clear Hu; clear Hw; clear Hps; clear HB; have Hco := n0; have Hlm := n1; have Hu := n2; have Hw := n3; have Hps := n4; have HB := n5; clear n0; clear n1; clear n2; clear n3; clear n4; clear n5; clear hb; dsimp only))
  clear hq1 hq2 hq3 ha k1 k2 k3 k4 k5 k6 k7 k8
  go_wp2
  go_loopg [221] L.length (fun kq v221 w' => ∃ z : Int, v221 = .int .i64 z ∧ Aside0 (0 ≤ z ∧ z + kq = L.length) ∧ Aside0 (Kd.R (Kd.int .i64) 3 w' w.heap.size (fun _ => True) (.slice Aco co.length cco) co) ∧ Aside0 (Kd.R Kd.string 9 w' w.heap.size (fun _ => True) (.slice Alm L.length clm) L) ∧ Aside0 (Kd.R (Kd.int .i64) 3 w' w.heap.size (fun _ => True) (.slice Au u.length cu) u) ∧ Aside0 (Kd.R Kd.string 9 w' w.heap.size (fun _ => True) (.slice Aw W.length cw) W) ∧ Aside0 (Kd.S (Kd.slice 3 (Kd.int .i64)) 23 w' w.heap.size (fun _ => True) (.slice Aps P.length cps) P) ∧ Aside0 (Below w.heap.size w w'))
  case atStart => exact ⟨0, rfl, ⟨by omega⟩, Hco, Hlm, Hu, Hw, Hps, HB⟩
  case round =>
    obtain ⟨z, rfl, HX, Hco, Hlm, Hu, Hw, Hps, HB⟩ := hrel
    have HLL : Aside0 (L.length ≤ 9223372036854775807) := ⟨(Kd.R_reads' Hlm.out).2.2.2.1⟩
    by_cases hlt : z < (L.length : Int)
    · have p0 : 0 ≤ z := HX.out.1
      obtain ⟨hsz, hone⟩ := HA.out z p0 hlt
      obtain ⟨ad, E1, h1⟩ := Kd.at_string (Kd.R_reads' Hlm.out).2.2 z p0 hlt
      cases E1
      obtain ⟨s, hs⟩ : ∃ s, s = rdOf ByteArray.empty L z := ⟨_, rfl⟩
      rw [← hs] at hsz hone h1
      have HSZ := Aside0.mk hsz
      have HO := Aside0.mk hone
      have HW : Aside0 (wrap64 (z + 1) = z + 1) := ⟨wrap_up p0 hlt HLL.out⟩
      have hd : decide (z < (L.length : Int)) = true := decide_eq_true hlt
      have HG : Aside0 (z + gk = L.length) := ⟨HX.out.2⟩
      obtain ⟨go, hgo⟩ : ∃ go, go = gk := ⟨_, rfl⟩
      have HGO := Aside0.mk hgo
      have HLT := Aside0.mk hlt
      have HP0 := Aside0.mk p0
      clear hsz hone hs hgo
      replace p0 := eq_true p0
      replace hlt := eq_true hlt
      go_wp2
      clear p0 hlt hd h1
      go_loopg [41] s.size (fun kq v41 w' => ∃ i : Int, v41 = .int .i64 i ∧ Aside0 (1 ≤ i ∧ i + kq = s.size + 1) ∧ Aside0 (Kd.R (Kd.int .i64) 3 w' w.heap.size (fun _ => True) (.slice Aco co.length cco) co) ∧ Aside0 (Kd.R Kd.string 9 w' w.heap.size (fun _ => True) (.slice (some ad) L.length clm) L) ∧ Aside0 (Kd.R (Kd.int .i64) 3 w' w.heap.size (fun _ => True) (.slice Au u.length cu) u) ∧ Aside0 (Kd.R Kd.string 9 w' w.heap.size (fun _ => True) (.slice Aw W.length cw) W) ∧ Aside0 (Kd.S (Kd.slice 3 (Kd.int .i64)) 23 w' w.heap.size (fun _ => True) (.slice Aps P.length cps) P) ∧ Aside0 (Below w.heap.size w w'))
      case atStart => exact ⟨1, rfl, ⟨by omega⟩, Hco, Hlm, Hu, Hw, Hps, HB⟩
      case round =>
        obtain ⟨i, rfl, HI, Hco, Hlm, Hu, Hw, Hps, HB⟩ := hrel
        by_cases hli : i < (s.size : Int)
        · have p1 : 1 ≤ i := HI.out.1
          obtain ⟨hq, hbt⟩ := HO.out i p1 hli
          obtain ⟨j, hj⟩ : ∃ j, j = i + 1 := ⟨_, rfl⟩
          obtain ⟨m, hm⟩ : ∃ m, m = i - 1 := ⟨_, rfl⟩
          have w1 : wrap64 (i + 1) = j := by unfold wrap64; have := HSZ.out; omega
          have w2 : IntKind.i64.wrap (i + 1) = j := (i64_w _).trans w1
          have w3 : wrap64 (i - 1) = m := by unfold wrap64; have := HSZ.out; omega
          have w4 : IntKind.i64.wrap (i - 1) = m := (i64_w _).trans w3
          rw [← hj] at hq
          rw [← hm] at hbt
          have HQ := Aside0.mk hq
          have f1 : decide (i < (s.size : Int)) = true := decide_eq_true hli
          have f2 : (1 ≤ (s.size : Int)) = True := eq_true (by omega)
          have f3 : decide (1 ≤ (s.size : Int)) = true := decide_eq_true (by omega)
          have f4 : (1 ≤ s.size) = True := eq_true (by omega)
          have f5 : decide (1 ≤ s.size) = true := decide_eq_true (by omega)
          have f6 : (0 ≤ i) = True := eq_true (by omega)
          have f7 : decide (0 ≤ i) = true := decide_eq_true (by omega)
          have f8 : (i ≤ j) = True := eq_true (by omega)
          have f9 : decide (i ≤ j) = true := decide_eq_true (by omega)
          have g1 : (j ≤ (s.size : Int)) = True := eq_true (by omega)
          have g2 : decide (j ≤ (s.size : Int)) = true := decide_eq_true (by omega)
          have g3 : (0 ≤ m) = True := eq_true (by omega)
          have g4 : decide (0 ≤ m) = true := decide_eq_true (by omega)
          have g5 : (m < (s.size : Int)) = True := eq_true (by omega)
          have g6 : decide (m < (s.size : Int)) = true := decide_eq_true (by omega)
          have g7 : (i < (s.size : Int)) = True := eq_true hli
          have g8 : decide (bt s i ≤ bt s m) = false := decide_eq_false (by omega)
          have HJ := Aside0.mk hj
          clear hq hbt hj hm hli p1
          try go_wp2
          have n0_ := Aside0.mk (Kd.R_drew Hco.out)
          have n1_ := Aside0.mk (Kd.R_drew Hu.out)
          have n2_ := Aside0.mk (Kd.R_drew Hw.out)
          have n3_ := Aside0.mk (Kd.S_drew Hps.out)
          have n5_ := Aside0.mk (Kd.R_drew Hlm.out)
          have n6_ := Aside0.mk (below_drew1 HB.out)
          clear Hco
          clear Hu
          clear Hw
          clear Hps
          clear Hlm
          clear HB
          have Hco := n0_
          have Hu := n1_
          have Hw := n2_
          have Hps := n3_
          have Hlm := n5_
          have HB := n6_
          clear n0_ n1_ n2_ n3_ n5_ n6_
          refine start_ (n := 14) (S := fun w' => True) (ds := []) #[false, false, false, false, false, false, false, false, false, false, false, false, false, false] (by kernel_rfl) rfl rfl trivial (fun hHeld => ?_); refine with_tabW laws_FnAlphabets.tab28 laws_FnAlphabets.bits28 (fun HT_ HW_ => ?_)
          generalize wr.drew = w142 at Hco Hu Hw Hps Hlm HB hHeld ⊢
          refine pure_ (i := 0) (N := some 232) (v := ?_) (a' := ?_) #[true, false, false, false, false, false, false, false, false, false, false, false, false, false] rfl rfl (any_of HT_.out (by kernel_rfl)) (fun _ _ _ h => h) (Or.inl ⟨by rfl, ?_⟩) ?_ ?_
          rotate_left
          · intro w'
            go_simp
            with_reducible rfl
          rotate_left
          · simp only [Act.put, List.setIfInBounds_toArray, List.set_cons_zero, List.set_cons_succ, i64_w, i32_w]
            rfl
          refine pure_ (i := 1) (N := some 233) (v := ?_) (a' := ?_) #[true, true, false, false, false, false, false, false, false, false, false, false, false, false] rfl rfl (any_of HT_.out (by kernel_rfl)) (fun _ _ _ h => h) (Or.inl ⟨by rfl, ?_⟩) ?_ ?_
          rotate_left
          · intro w'
            go_simp
            with_reducible rfl
          rotate_left
          · simp only [Act.put, List.setIfInBounds_toArray, List.set_cons_zero, List.set_cons_succ, i64_w, i32_w]
            rfl
          refine pure_ (i := 2) (N := some 234) (v := ?_) (a' := ?_) #[true, true, true, false, false, false, false, false, false, false, false, false, false, false] rfl rfl (any_of HT_.out (by kernel_rfl)) (fun _ _ _ h => h) (Or.inl ⟨by rfl, ?_⟩) ?_ ?_
          rotate_left
          · intro w'
            go_simp
            with_reducible rfl
          rotate_left
          · simp only [Act.put, List.setIfInBounds_toArray, List.set_cons_zero, List.set_cons_succ, i64_w, i32_w]
            rfl
          refine pure_ (i := 3) (N := some 235) (v := ?_) (a' := ?_) #[true, true, true, true, false, false, false, false, false, false, false, false, false, false] rfl rfl (any_of HT_.out (by kernel_rfl)) (fun _ _ _ h => h) (Or.inl ⟨by rfl, ?_⟩) ?_ ?_
          rotate_left
          · intro w'
            go_simp
            with_reducible rfl
          rotate_left
          · simp only [Act.put, List.setIfInBounds_toArray, List.set_cons_zero, List.set_cons_succ, i64_w, i32_w]
            rfl
          refine pure_ (i := 4) (N := some 236) (v := ?_) (a' := ?_) #[true, true, true, true, true, false, false, false, false, false, false, false, false, false] rfl rfl (any_of HT_.out (by kernel_rfl)) (fun _ _ _ h => h) (Or.inl ⟨by rfl, ?_⟩) ?_ ?_
          rotate_left
          · intro w'
            go_simp
            with_reducible rfl
          rotate_left
          · simp only [Act.put, List.setIfInBounds_toArray, List.set_cons_zero, List.set_cons_succ, i64_w, i32_w]
            rfl
          refine pure_ (i := 5) (N := some 237) (v := ?_) (a' := ?_) #[true, true, true, true, true, true, false, false, false, false, false, false, false, false] rfl rfl (any_of HT_.out (by kernel_rfl)) (fun _ _ _ h => h) (Or.inl ⟨by rfl, ?_⟩) ?_ ?_
          rotate_left
          · intro w'
            go_simp
            with_reducible rfl
          rotate_left
          · simp only [Act.put, List.setIfInBounds_toArray, List.set_cons_zero, List.set_cons_succ, i64_w, i32_w]
            rfl
          refine pure_ (i := 6) (N := some 238) (v := ?_) (a' := ?_) #[true, true, true, true, true, true, true, false, false, false, false, false, false, false] rfl rfl (any_of HT_.out (by kernel_rfl)) (fun _ _ _ h => h) (Or.inl ⟨by rfl, ?_⟩) ?_ ?_
          rotate_left
          · intro w'
            go_simp
            with_reducible rfl
          rotate_left
          · simp only [Act.put, List.setIfInBounds_toArray, List.set_cons_zero, List.set_cons_succ, i64_w, i32_w]
            rfl
          refine pure_ (i := 7) (N := some 239) (v := ?_) (a' := ?_) #[true, true, true, true, true, true, true, true, false, false, false, false, false, false] rfl rfl (any_of HT_.out (by kernel_rfl)) (fun _ _ _ h => h) (Or.inl ⟨by rfl, ?_⟩) ?_ ?_
          rotate_left
          · intro w'
            go_simp
            with_reducible rfl
          rotate_left
          · simp only [Act.put, List.setIfInBounds_toArray, List.set_cons_zero, List.set_cons_succ, i64_w, i32_w]
            rfl
          refine one_ (i := 8) (N := some 240) #[true, true, true, true, true, true, true, true, true, false, false, false, false, false] rfl rfl (one_of HT_.out (by kernel_rfl)) (by decide) (fun K hK => ?_)
          refine goes_ Tryd.func24 (by kernel_rfl) rfl #[.slice Aco co.length cco, .string (s.extract 0 1), .string (s.extract (i : Int).toNat (j : Int).toNat)] (by rfl) rfl rfl (by (try simp only [List.map_toArray, List.map_cons, List.map_nil]); first | done | rfl | (simp only [List.length_drop, List.length_take]; rfl)) ?_
          with_reducible refine (impl_LookAlike.calls k _ _ co (s.extract 0 1) (s.extract (i : Int).toNat (j : Int).toNat) true true _ ?side1 ?side2 HQ.out).mono ?_
          (case side1 => repeat (first | exact (Kd.R_reads' Hco.out).2.2 | (with_reducible refine Kd.C_alloc ?_ _) | (with_reducible refine Kd.C_drewN ?_ _) | (with_reducible refine Kd.C_drew ?_)))
          (case side2 => exact (Kd.R_reads' Hco.out).2.1)
          rintro e w143 ⟨rfl, hb⟩
          refine ⟨_, rfl, ?_⟩
          have n0_ := Aside0.mk (Kd.R_below (by (with_reducible repeat (first | apply Kd.R_alloc | apply Kd.R_drewN | apply Kd.R_drew)); exact Hco.out) hb)
          have n1_ := Aside0.mk (Kd.R_below (by (with_reducible repeat (first | apply Kd.R_alloc | apply Kd.R_drewN | apply Kd.R_drew)); exact Hu.out) hb)
          have n2_ := Aside0.mk (Kd.R_below (by (with_reducible repeat (first | apply Kd.R_alloc | apply Kd.R_drewN | apply Kd.R_drew)); exact Hw.out) hb)
          have n3_ := Aside0.mk (Kd.S_below (by (with_reducible repeat (first | apply Kd.S_alloc | apply Kd.S_drewN | apply Kd.S_drew)); exact Hps.out) hb)
          have n5_ := Aside0.mk (Kd.R_below (by (with_reducible repeat (first | apply Kd.R_alloc | apply Kd.R_drewN | apply Kd.R_drew)); exact Hlm.out) hb)
          have n6_ := Aside0.mk (below_step (by repeat (first | (with_reducible first | exact HB.out | apply below_alloc | apply pw_below_drewN | apply below_drew1) | exact HB.out)) hb)
          clear Hco
          clear Hu
          clear Hw
          clear Hps
          clear Hlm
          clear HB
          have Hco := n0_
          have Hu := n1_
          have Hw := n2_
          have Hps := n3_
          have Hlm := n5_
          have HB := n6_
          clear n0_ n1_ n2_ n3_ n5_ n6_
          (try clear hb)
          (try clear hb2)
          (try clear hk)
          (try clear hi)
          refine hK.out _ _ trivial (fun hHeld => ?_)
          clear hK K
          refine norm_ (a' := ?_) ?_ ?_
          rotate_left
          · show Act.put _ (some 240) _ = _
            simp only [Act.put, List.setIfInBounds_toArray, List.set_cons_zero, List.set_cons_succ, i64_w, i32_w]
            rfl
          refine pure_ (i := 9) (N := some 231) (v := ?_) (a' := ?_) #[true, true, true, true, true, true, true, true, true, true, false, false, false, false] rfl rfl (any_of HT_.out (by kernel_rfl)) (fun _ _ _ h => h) (Or.inl ⟨by rfl, ?_⟩) ?_ ?_
          rotate_left
          · intro w'
            go_simp
            with_reducible rfl
          rotate_left
          · simp only [Act.put, List.setIfInBounds_toArray, List.set_cons_zero, List.set_cons_succ, i64_w, i32_w]
            rfl
          refine pure_ (i := 10) (N := some 241) (v := ?_) (a' := ?_) #[true, true, true, true, true, true, true, true, true, true, true, false, false, false] rfl rfl (any_of HT_.out (by kernel_rfl)) (fun _ _ _ h => h) (Or.inl ⟨by rfl, ?_⟩) ?_ ?_
          rotate_left
          · intro w'
            go_simp
            with_reducible rfl
          rotate_left
          · simp only [Act.put, List.setIfInBounds_toArray, List.set_cons_zero, List.set_cons_succ, i64_w, i32_w]
            rfl
          refine pure_ (i := 11) (N := some 242) (v := ?_) (a' := ?_) #[true, true, true, true, true, true, true, true, true, true, true, true, false, false] rfl rfl (any_of HT_.out (by kernel_rfl)) (fun _ _ _ h => h) (Or.inl ⟨by rfl, ?_⟩) ?_ ?_
          rotate_left
          · intro w'
            go_simp
            with_reducible rfl
          rotate_left
          · simp only [Act.put, List.setIfInBounds_toArray, List.set_cons_zero, List.set_cons_succ, i64_w, i32_w]
            rfl
          refine pure_ (i := 12) (N := some 42) (v := ?_) (a' := ?_) #[true, true, true, true, true, true, true, true, true, true, true, true, true, false] rfl rfl (any_of HT_.out (by kernel_rfl)) (fun _ _ _ h => h) (Or.inl ⟨by rfl, ?_⟩) ?_ ?_
          rotate_left
          · intro w'
            go_simp
            with_reducible rfl
          rotate_left
          · simp only [Act.put, List.setIfInBounds_toArray, List.set_cons_zero, List.set_cons_succ, i64_w, i32_w]
            rfl
          refine pure_ (i := 13) (N := some 43) (v := ?_) (a' := ?_) #[true, true, true, true, true, true, true, true, true, true, true, true, true, true] rfl rfl (any_of HT_.out (by kernel_rfl)) (fun _ _ _ h => h) (Or.inl ⟨by rfl, ?_⟩) ?_ ?_
          rotate_left
          · intro w'
            go_simp
            with_reducible rfl
          rotate_left
          · simp only [Act.put, List.setIfInBounds_toArray, List.set_cons_zero, List.set_cons_succ, i64_w, i32_w]
            rfl
          refine done_ (done_of HT_.out (by kernel_rfl)) ?_
          try go_wp2
          have n0_ := Aside0.mk (Kd.R_drew Hco.out)
          have n1_ := Aside0.mk (Kd.R_drew Hu.out)
          have n2_ := Aside0.mk (Kd.R_drew Hw.out)
          have n3_ := Aside0.mk (Kd.S_drew Hps.out)
          have n5_ := Aside0.mk (Kd.R_drew Hlm.out)
          have n6_ := Aside0.mk (below_drew1 HB.out)
          clear Hco
          clear Hu
          clear Hw
          clear Hps
          clear Hlm
          clear HB
          have Hco := n0_
          have Hu := n1_
          have Hw := n2_
          have Hps := n3_
          have Hlm := n5_
          have HB := n6_
          clear n0_ n1_ n2_ n3_ n5_ n6_
          have p136 : 0 ≤ (m : Int) := of_decide_eq_true (by first | (with_reducible assumption) | assumption)
          have q136 : m < (s.size : Int) := of_decide_eq_true (by first | (with_reducible assumption) | assumption)
          have hx136 := bt_at s m
          replace p136 := eq_true p136
          replace q136 := eq_true q136
          have p137 : 0 ≤ (i : Int) := of_decide_eq_true (by first | (with_reducible assumption) | assumption)
          have q137 : i < (s.size : Int) := of_decide_eq_true (by first | (with_reducible assumption) | assumption)
          have hx137 := bt_at s i
          replace p137 := eq_true p137
          replace q137 := eq_true q137
          refine start_ (n := 16) (S := fun w' => True) (ds := []) #[false, false, false, false, false, false, false, false, false, false, false, false, false, false, false, false] (by kernel_rfl) rfl rfl trivial (fun hHeld => ?_); refine with_tabW laws_FnAlphabets.tab29 laws_FnAlphabets.bits29 (fun HT_ HW_ => ?_)
          generalize w143.drew = w144 at Hco Hu Hw Hps Hlm HB hHeld ⊢
          refine pure_ (i := 0) (N := some 243) (v := ?_) (a' := ?_) #[true, false, false, false, false, false, false, false, false, false, false, false, false, false, false, false] rfl rfl (any_of HT_.out (by kernel_rfl)) (fun _ _ _ h => h) (Or.inl ⟨by rfl, ?_⟩) ?_ ?_
          rotate_left
          · intro w'
            go_simp
            with_reducible rfl
          rotate_left
          · simp only [Act.put, List.setIfInBounds_toArray, List.set_cons_zero, List.set_cons_succ, i64_w, i32_w]
            rfl
          refine pure_ (i := 1) (N := some 244) (v := ?_) (a' := ?_) #[true, true, false, false, false, false, false, false, false, false, false, false, false, false, false, false] rfl rfl (any_of HT_.out (by kernel_rfl)) (fun _ _ _ h => h) (Or.inl ⟨by rfl, ?_⟩) ?_ ?_
          rotate_left
          · intro w'
            go_simp
            with_reducible rfl
          rotate_left
          · simp only [Act.put, List.setIfInBounds_toArray, List.set_cons_zero, List.set_cons_succ, i64_w, i32_w]
            rfl
          refine pure_ (i := 2) (N := some 245) (v := ?_) (a' := ?_) #[true, true, true, false, false, false, false, false, false, false, false, false, false, false, false, false] rfl rfl (any_of HT_.out (by kernel_rfl)) (fun _ _ _ h => h) (Or.inl ⟨by rfl, ?_⟩) ?_ ?_
          rotate_left
          · intro w'
            go_simp
            with_reducible rfl
          rotate_left
          · simp only [Act.put, List.setIfInBounds_toArray, List.set_cons_zero, List.set_cons_succ, i64_w, i32_w]
            rfl
          refine pure_ (i := 3) (N := some 246) (v := ?_) (a' := ?_) #[true, true, true, true, false, false, false, false, false, false, false, false, false, false, false, false] rfl rfl (any_of HT_.out (by kernel_rfl)) (fun _ _ _ h => h) (Or.inl ⟨by rfl, ?_⟩) ?_ ?_
          rotate_left
          · intro w'
            go_simp
            with_reducible rfl
          rotate_left
          · simp only [Act.put, List.setIfInBounds_toArray, List.set_cons_zero, List.set_cons_succ, i64_w, i32_w]
            rfl
          refine pure_ (i := 4) (N := some 247) (v := ?_) (a' := ?_) #[true, true, true, true, true, false, false, false, false, false, false, false, false, false, false, false] rfl rfl (any_of HT_.out (by kernel_rfl)) (fun _ _ _ h => h) (Or.inl ⟨by rfl, ?_⟩) ?_ ?_
          rotate_left
          · intro w'
            go_simp
            with_reducible rfl
          rotate_left
          · simp only [Act.put, List.setIfInBounds_toArray, List.set_cons_zero, List.set_cons_succ, i64_w, i32_w]
            rfl
          refine pure_ (i := 5) (N := some 248) (v := ?_) (a' := ?_) #[true, true, true, true, true, true, false, false, false, false, false, false, false, false, false, false] rfl rfl (any_of HT_.out (by kernel_rfl)) (fun _ _ _ h => h) (Or.inl ⟨by rfl, ?_⟩) ?_ ?_
          rotate_left
          · intro w'
            go_simp
            with_reducible rfl
          rotate_left
          · simp only [Act.put, List.setIfInBounds_toArray, List.set_cons_zero, List.set_cons_succ, i64_w, i32_w]
            rfl
          refine pure_ (i := 6) (N := some 249) (v := ?_) (a' := ?_) #[true, true, true, true, true, true, true, false, false, false, false, false, false, false, false, false] rfl rfl (any_of HT_.out (by kernel_rfl)) (fun _ _ _ h => h) (Or.inl ⟨by rfl, ?_⟩) ?_ ?_
          rotate_left
          · intro w'
            go_simp
            with_reducible rfl
          rotate_left
          · simp only [Act.put, List.setIfInBounds_toArray, List.set_cons_zero, List.set_cons_succ, i64_w, i32_w]
            rfl
          refine pure_ (i := 7) (N := some 250) (v := ?_) (a' := ?_) #[true, true, true, true, true, true, true, true, false, false, false, false, false, false, false, false] rfl rfl (any_of HT_.out (by kernel_rfl)) (fun _ _ _ h => h) (Or.inl ⟨by rfl, ?_⟩) ?_ ?_
          rotate_left
          · intro w'
            go_simp
            with_reducible rfl
          rotate_left
          · simp only [Act.put, List.setIfInBounds_toArray, List.set_cons_zero, List.set_cons_succ, i64_w, i32_w]
            rfl
          refine pure_ (i := 8) (N := some 251) (v := ?_) (a' := ?_) #[true, true, true, true, true, true, true, true, true, false, false, false, false, false, false, false] rfl rfl (any_of HT_.out (by kernel_rfl)) (fun _ _ _ h => h) (Or.inl ⟨by rfl, ?_⟩) ?_ ?_
          rotate_left
          · intro w'
            go_simp
            with_reducible rfl
          rotate_left
          · simp only [Act.put, List.setIfInBounds_toArray, List.set_cons_zero, List.set_cons_succ, i64_w, i32_w]
            rfl
          refine pure_ (i := 9) (N := some 252) (v := ?_) (a' := ?_) #[true, true, true, true, true, true, true, true, true, true, false, false, false, false, false, false] rfl rfl (any_of HT_.out (by kernel_rfl)) (fun _ _ _ h => h) (Or.inl ⟨by rfl, ?_⟩) ?_ ?_
          rotate_left
          · intro w'
            go_simp
            with_reducible rfl
          rotate_left
          · simp only [Act.put, List.setIfInBounds_toArray, List.set_cons_zero, List.set_cons_succ, i64_w, i32_w]
            rfl
          refine pure_ (i := 11) (N := some 254) (v := ?_) (a' := ?_) #[true, true, true, true, true, true, true, true, true, true, false, true, false, false, false, false] rfl rfl (any_of HT_.out (by kernel_rfl)) (fun _ _ _ h => h) (Or.inl ⟨by rfl, ?_⟩) ?_ ?_
          rotate_left
          · intro w'
            go_simp
            with_reducible rfl
          rotate_left
          · simp only [Act.put, List.setIfInBounds_toArray, List.set_cons_zero, List.set_cons_succ, i64_w, i32_w]
            rfl
          refine pure_ (i := 12) (N := some 255) (v := ?_) (a' := ?_) #[true, true, true, true, true, true, true, true, true, true, false, true, true, false, false, false] rfl rfl (any_of HT_.out (by kernel_rfl)) (fun _ _ _ h => h) (Or.inl ⟨by rfl, ?_⟩) ?_ ?_
          rotate_left
          · intro w'
            go_simp
            with_reducible rfl
          rotate_left
          · simp only [Act.put, List.setIfInBounds_toArray, List.set_cons_zero, List.set_cons_succ, i64_w, i32_w]
            rfl
          refine take_ (i := 10) (N := some 253) (v := ?_) (a' := ?_) #[true, true, true, true, true, true, true, true, true, true, true, true, true, false, false, false] rfl rfl (take_ofW HT_.out HW_.out (by kernel_rfl)) (fun _ _ _ h => h) (Or.inl ⟨by rfl, ?_⟩) hHeld ?_ ?_
          rotate_left
          · intro w' _
            go_simp
            with_reducible rfl
          rotate_left
          · simp only [Act.put, List.setIfInBounds_toArray, List.set_cons_zero, List.set_cons_succ, i64_w, i32_w]
            rfl
          refine take_ (i := 13) (N := some 256) (v := ?_) (a' := ?_) #[true, true, true, true, true, true, true, true, true, true, true, true, true, true, false, false] rfl rfl (take_ofW HT_.out HW_.out (by kernel_rfl)) (fun _ _ _ h => h) (Or.inl ⟨by rfl, ?_⟩) hHeld ?_ ?_
          rotate_left
          · intro w' _
            go_simp
            with_reducible rfl
          rotate_left
          · simp only [Act.put, List.setIfInBounds_toArray, List.set_cons_zero, List.set_cons_succ, i64_w, i32_w]
            rfl
          refine pure_ (i := 14) (N := some 257) (v := ?_) (a' := ?_) #[true, true, true, true, true, true, true, true, true, true, true, true, true, true, true, false] rfl rfl (any_of HT_.out (by kernel_rfl)) (fun _ _ _ h => h) (Or.inl ⟨by rfl, ?_⟩) ?_ ?_
          rotate_left
          · intro w'
            go_simp
            with_reducible rfl
          rotate_left
          · simp only [Act.put, List.setIfInBounds_toArray, List.set_cons_zero, List.set_cons_succ, i64_w, i32_w]
            rfl
          refine pure_ (i := 15) (N := some 258) (v := ?_) (a' := ?_) #[true, true, true, true, true, true, true, true, true, true, true, true, true, true, true, true] rfl rfl (any_of HT_.out (by kernel_rfl)) (fun _ _ _ h => h) (Or.inl ⟨by rfl, ?_⟩) ?_ ?_
          rotate_left
          · intro w'
            go_simp
            with_reducible rfl
          rotate_left
          · simp only [Act.put, List.setIfInBounds_toArray, List.set_cons_zero, List.set_cons_succ, i64_w, i32_w]
            rfl
          refine done_ (done_of HT_.out (by kernel_rfl)) ?_
          try go_wp2
          go_roundg (gk - 1)
          case measure => have := HI.out.2; have := of_eq_true g7; omega
          case rel => exact ⟨j, rfl, ⟨by have := HI.out; have := HJ.out; have := of_eq_true g7; omega⟩, Hco, Hlm, Hu, Hw, Hps, HB⟩
        · have f1 : decide (i < (s.size : Int)) = false := decide_eq_false hli
          clear hli
          go_wp2
          go_roundg (go - 1)
          case measure => have := HG.out; have := HGO.out; have := HLT.out; omega
          case rel => exact ⟨wrap64 (z + 1), rfl, ⟨by rw [HW.out]; have := HG.out; have := HGO.out; have := HLT.out; have := HP0.out; omega⟩, Hco, Hlm, Hu, Hw, Hps, HB⟩
    · have hd : decide (z < (L.length : Int)) = false := decide_eq_false hlt
      clear hlt HX HLL HA Hco Hlm
      go_wp2
      clear hd
      go_loopg [262] P.length (fun kq v262 w' => ∃ z : Int, v262 = .int .i64 z ∧ Aside0 (0 ≤ z ∧ z + kq = P.length) ∧ Aside0 (Kd.R (Kd.int .i64) 3 w' w.heap.size (fun _ => True) (.slice Au u.length cu) u) ∧ Aside0 (Kd.R Kd.string 9 w' w.heap.size (fun _ => True) (.slice Aw W.length cw) W) ∧ Aside0 (Kd.S (Kd.slice 3 (Kd.int .i64)) 23 w' w.heap.size (fun _ => True) (.slice Aps P.length cps) P) ∧ Aside0 (Below w.heap.size w w'))
      case atStart => exact ⟨0, rfl, ⟨by omega⟩, Hu, Hw, Hps, HB⟩
      case round =>
        obtain ⟨z, rfl, HX, Hu, Hw, Hps, HB⟩ := hrel
        have HLL : Aside0 (P.length ≤ 9223372036854775807) := ⟨(Kd.S_reads' Hps.out).2.2.2.1⟩
        by_cases hlt : z < (P.length : Int)
        · have p0 : 0 ≤ z := HX.out.1
          obtain ⟨hlen, ⟨ha0, ha1⟩, ⟨hb0, hb1⟩, hq, hlt2⟩ := HP.out z p0 hlt
          have HQ := Aside0.mk hq
          have HW : Aside0 (wrap64 (z + 1) = z + 1) := ⟨wrap_up p0 hlt HLL.out⟩
          have HLT := Aside0.mk hlt
          have f0 : decide (z < (P.length : Int)) = true := decide_eq_true hlt
          have f1 : decide (0 ≤ z) = true := decide_eq_true p0
          have f2 : decide (0 < ((rd_L2 P z).length : Int)) = true := decide_eq_true (by omega)
          have f3 : decide (1 < ((rd_L2 P z).length : Int)) = true := decide_eq_true (by omega)
          have f4 : decide (0 ≤ rd (rd_L2 P z) 0) = true := decide_eq_true ha0
          have f5 : decide (rd (rd_L2 P z) 0 < (W.length : Int)) = true := decide_eq_true ha1
          have f6 : decide (0 ≤ rd (rd_L2 P z) 1) = true := decide_eq_true hb0
          have f7 : decide (rd (rd_L2 P z) 1 < (W.length : Int)) = true := decide_eq_true hb1
          have f8 : decide (rd (rd_L2 P z) 1 ≤ rd (rd_L2 P z) 0) = false := decide_eq_false (by omega)
          clear hlen ha0 ha1 hb0 hb1 hq hlt2 hlt p0
          have p533 : 0 ≤ (z : Int) := of_decide_eq_true (by first | (with_reducible assumption) | assumption)
          have q533 : z < (P.length : Int) := of_decide_eq_true (by first | (with_reducible assumption) | assumption)
          obtain ⟨ad533, A533_0, c533_0, e533, hx533_0, hl533_0, hi533_0⟩ := at_L2 (Kd.S_reads' Hps.out).2.2 z p533 q533
          cases e533
          obtain ⟨ce533, hce533, hMe533, hcc533⟩ := Kd.S_get Hps.out [] z p533 (by first | exact q533 | exact of_decide_eq_true (by first | (with_reducible assumption) | assumption) | (have e_ := (Kd.S_reads' Hps.out).1; omega))
          obtain ⟨ve533_0, rfl, ge533_0⟩ := hMe533
          have hv533_0 := hcc533 0 _ rfl
          rw [Nat.add_zero, show ((Kd.slice 3 (Kd.int .i64))).sz = 1 from rfl, Nat.mul_one] at hv533_0
          replace hv533_0 := Option.some.inj (hv533_0.symm.trans hx533_0)
          rw [hv533_0] at ge533_0
          have HL533_0 := Aside0.mk (show Kd.R (Kd.int .i64) 3 _ _ _ _ (rd_L2 P z) from ge533_0)
          clear hv533_0 ge533_0
          clear hcc533 hce533
          have HR533_0 := Aside0.mk hi533_0
          have HC533_0 := Aside0.mk hl533_0
          clear hi533_0 hl533_0
          replace p533 := eq_true p533
          replace q533 := eq_true q533
          try go_wp2
          have n0_ := Aside0.mk (Kd.R_drew Hu.out)
          have n1_ := Aside0.mk (Kd.R_drew Hw.out)
          have n3_ := Aside0.mk (Kd.S_drew Hps.out)
          have n4_ := Aside0.mk (Kd.R_drew HL533_0.out)
          have n5_ := Aside0.mk (Kd.C_drew HR533_0.out)
          have n6_ := Aside0.mk (below_drew1 HB.out)
          clear Hu
          clear Hw
          clear Hps
          clear HL533_0
          clear HR533_0
          clear HB
          have Hu := n0_
          have Hw := n1_
          have Hps := n3_
          have HL533_0 := n4_
          have HR533_0 := n5_
          have HB := n6_
          clear n0_ n1_ n3_ n4_ n5_ n6_
          have p534 : 0 ≤ (0 : Int) := (by omega)
          have q534 : 0 < ((rd_L2 P z).length : Int) := of_decide_eq_true (by first | (with_reducible assumption) | assumption)
          obtain ⟨ad534, e534, hx534_0⟩ := Kd.at_int (by repeat (first | (with_reducible exact HR533_0.out) | (with_reducible refine Kd.C_alloc ?_ _) | (with_reducible refine Kd.C_drewN ?_ _) | (with_reducible refine Kd.C_drew ?_) | exact HR533_0.out)) 0 p534 q534
          cases e534
          have qi534 : (0 < (rd_L2 P z).length) = True := eq_true (by omega)
          (try rw [show ((0 : Int)).toNat = 0 from rfl] at hx534_0)
          (try rw [Addr.add_zero'] at hx534_0)
          replace p534 := eq_true p534
          replace q534 := eq_true q534
          have p535 : 0 ≤ ((rd (rd_L2 P z) 0) : Int) := of_decide_eq_true (by first | (with_reducible assumption) | assumption)
          have q535 : (rd (rd_L2 P z) 0) < (W.length : Int) := of_decide_eq_true (by first | (with_reducible assumption) | assumption)
          obtain ⟨ad535, e535, hx535_0⟩ := Kd.at_string (Kd.R_reads' Hw.out).2.2 (rd (rd_L2 P z) 0) p535 q535
          cases e535
          replace p535 := eq_true p535
          replace q535 := eq_true q535
          have p536 : 0 ≤ (1 : Int) := (by omega)
          have q536 : 1 < ((rd_L2 P z).length : Int) := of_decide_eq_true (by first | (with_reducible assumption) | assumption)
          obtain ⟨ad536, e536, hx536_0⟩ := Kd.at_int (by repeat (first | (with_reducible exact HR533_0.out) | (with_reducible refine Kd.C_alloc ?_ _) | (with_reducible refine Kd.C_drewN ?_ _) | (with_reducible refine Kd.C_drew ?_) | exact HR533_0.out)) 1 p536 q536
          obtain rfl : ad534 = ad536 := (by injection e536)
          (try simp only [show (1 : Int).toNat = 1 from rfl, Nat.reduceMul, Nat.reduceEqDiff, Go.Addr.add, ↓reduceIte] at hx536_0)
          have qi536 : (1 < (rd_L2 P z).length) = True := eq_true (by omega)
          (try rw [show ((1 : Int)).toNat = 1 from rfl] at hx536_0)
          replace p536 := eq_true p536
          replace q536 := eq_true q536
          have p537 : 0 ≤ ((rd (rd_L2 P z) 1) : Int) := of_decide_eq_true (by first | (with_reducible assumption) | assumption)
          have q537 : (rd (rd_L2 P z) 1) < (W.length : Int) := of_decide_eq_true (by first | (with_reducible assumption) | assumption)
          obtain ⟨ad537, e537, hx537_0⟩ := Kd.at_string (Kd.R_reads' Hw.out).2.2 (rd (rd_L2 P z) 1) p537 q537
          obtain rfl : ad535 = ad537 := (by injection e537)
          replace p537 := eq_true p537
          replace q537 := eq_true q537
          refine start_ (n := 19) (S := fun w' => w'.cell? ad534 = some (.int .i64 (rd (rd_L2 P z) 0)) ∧ w'.cell? (ad535.add ((rd (rd_L2 P z) 0)).toNat) = some (.string (rdOf ByteArray.empty W (rd (rd_L2 P z) 0))) ∧ w'.cell? ⟨ad534.block, ad534.off + 1, none⟩ = some (.int .i64 (rd (rd_L2 P z) 1)) ∧ w'.cell? (ad535.add ((rd (rd_L2 P z) 1)).toNat) = some (.string (rdOf ByteArray.empty W (rd (rd_L2 P z) 1)))) (ds := []) #[false, false, false, false, false, false, false, false, false, false, false, false, false, false, false, false, false, false, false] (by kernel_rfl) rfl rfl ⟨hx534_0, hx535_0, hx536_0, hx537_0⟩ (fun hHeld => ?_); refine with_tabW laws_FnAlphabets.tab35 laws_FnAlphabets.bits35 (fun HT_ HW_ => ?_)
          generalize wr.drew = w168 at Hu Hw Hps HL533_0 HR533_0 HB hx534_0 hx535_0 hx536_0 hx537_0 hHeld ⊢
          refine pure_ (i := 0) (N := some 267) (v := ?_) (a' := ?_) #[true, false, false, false, false, false, false, false, false, false, false, false, false, false, false, false, false, false, false] rfl rfl (any_of HT_.out (by kernel_rfl)) (fun _ _ _ h => h) (Or.inl ⟨by rfl, ?_⟩) ?_ ?_
          rotate_left
          · intro w'
            go_simp
            with_reducible rfl
          rotate_left
          · simp only [Act.put, List.setIfInBounds_toArray, List.set_cons_zero, List.set_cons_succ, i64_w, i32_w]
            rfl
          refine pure_ (i := 1) (N := some 268) (v := ?_) (a' := ?_) #[true, true, false, false, false, false, false, false, false, false, false, false, false, false, false, false, false, false, false] rfl rfl (any_of HT_.out (by kernel_rfl)) (fun _ _ _ h => h) (Or.inl ⟨by rfl, ?_⟩) ?_ ?_
          rotate_left
          · intro w'
            go_simp
            with_reducible rfl
          rotate_left
          · simp only [Act.put, List.setIfInBounds_toArray, List.set_cons_zero, List.set_cons_succ, i64_w, i32_w]
            rfl
          refine pure_ (i := 2) (N := some 269) (v := ?_) (a' := ?_) #[true, true, true, false, false, false, false, false, false, false, false, false, false, false, false, false, false, false, false] rfl rfl (any_of HT_.out (by kernel_rfl)) (fun _ _ _ h => h) (Or.inl ⟨by rfl, ?_⟩) ?_ ?_
          rotate_left
          · intro w'
            go_simp
            with_reducible rfl
          rotate_left
          · simp only [Act.put, List.setIfInBounds_toArray, List.set_cons_zero, List.set_cons_succ, i64_w, i32_w]
            rfl
          refine pure_ (i := 3) (N := some 270) (v := ?_) (a' := ?_) #[true, true, true, true, false, false, false, false, false, false, false, false, false, false, false, false, false, false, false] rfl rfl (any_of HT_.out (by kernel_rfl)) (fun _ _ _ h => h) (Or.inl ⟨by rfl, ?_⟩) ?_ ?_
          rotate_left
          · intro w'
            go_simp
            with_reducible rfl
          rotate_left
          · simp only [Act.put, List.setIfInBounds_toArray, List.set_cons_zero, List.set_cons_succ, i64_w, i32_w]
            rfl
          refine pure_ (i := 7) (N := some 274) (v := ?_) (a' := ?_) #[true, true, true, true, false, false, false, true, false, false, false, false, false, false, false, false, false, false, false] rfl rfl (any_of HT_.out (by kernel_rfl)) (fun _ _ _ h => h) (Or.inl ⟨by rfl, ?_⟩) ?_ ?_
          rotate_left
          · intro w'
            go_simp
            with_reducible rfl
          rotate_left
          · simp only [Act.put, List.setIfInBounds_toArray, List.set_cons_zero, List.set_cons_succ, i64_w, i32_w]
            rfl
          refine pure_ (i := 8) (N := some 275) (v := ?_) (a' := ?_) #[true, true, true, true, false, false, false, true, true, false, false, false, false, false, false, false, false, false, false] rfl rfl (any_of HT_.out (by kernel_rfl)) (fun _ _ _ h => h) (Or.inl ⟨by rfl, ?_⟩) ?_ ?_
          rotate_left
          · intro w'
            go_simp
            with_reducible rfl
          rotate_left
          · simp only [Act.put, List.setIfInBounds_toArray, List.set_cons_zero, List.set_cons_succ, i64_w, i32_w]
            rfl
          refine pure_ (i := 9) (N := some 276) (v := ?_) (a' := ?_) #[true, true, true, true, false, false, false, true, true, true, false, false, false, false, false, false, false, false, false] rfl rfl (any_of HT_.out (by kernel_rfl)) (fun _ _ _ h => h) (Or.inl ⟨by rfl, ?_⟩) ?_ ?_
          rotate_left
          · intro w'
            go_simp
            with_reducible rfl
          rotate_left
          · simp only [Act.put, List.setIfInBounds_toArray, List.set_cons_zero, List.set_cons_succ, i64_w, i32_w]
            rfl
          refine take_ (i := 4) (N := some 271) (v := ?_) (a' := ?_) #[true, true, true, true, true, false, false, true, true, true, false, false, false, false, false, false, false, false, false] rfl rfl (take_ofW HT_.out HW_.out (by kernel_rfl)) (fun _ _ _ h => h) (Or.inl ⟨by rfl, ?_⟩) hHeld ?_ ?_
          rotate_left
          · rintro w' ⟨s0, s1, s2, s3⟩
            go_simp
            with_reducible rfl
          rotate_left
          · simp only [Act.put, List.setIfInBounds_toArray, List.set_cons_zero, List.set_cons_succ, i64_w, i32_w]
            rfl
          refine pure_ (i := 5) (N := some 272) (v := ?_) (a' := ?_) #[true, true, true, true, true, true, false, true, true, true, false, false, false, false, false, false, false, false, false] rfl rfl (any_of HT_.out (by kernel_rfl)) (fun _ _ _ h => h) (Or.inl ⟨by rfl, ?_⟩) ?_ ?_
          rotate_left
          · intro w'
            go_simp
            with_reducible rfl
          rotate_left
          · simp only [Act.put, List.setIfInBounds_toArray, List.set_cons_zero, List.set_cons_succ, i64_w, i32_w]
            rfl
          refine take_ (i := 6) (N := some 273) (v := ?_) (a' := ?_) #[true, true, true, true, true, true, true, true, true, true, false, false, false, false, false, false, false, false, false] rfl rfl (take_ofW HT_.out HW_.out (by kernel_rfl)) (fun _ _ _ h => h) (Or.inl ⟨by rfl, ?_⟩) hHeld ?_ ?_
          rotate_left
          · rintro w' ⟨s0, s1, s2, s3⟩
            go_simp
            with_reducible rfl
          rotate_left
          · simp only [Act.put, List.setIfInBounds_toArray, List.set_cons_zero, List.set_cons_succ, i64_w, i32_w]
            rfl
          refine take_ (i := 10) (N := some 277) (v := ?_) (a' := ?_) #[true, true, true, true, true, true, true, true, true, true, true, false, false, false, false, false, false, false, false] rfl rfl (take_ofW HT_.out HW_.out (by kernel_rfl)) (fun _ _ _ h => h) (Or.inl ⟨by rfl, ?_⟩) hHeld ?_ ?_
          rotate_left
          · rintro w' ⟨s0, s1, s2, s3⟩
            go_simp
            with_reducible rfl
          rotate_left
          · simp only [Act.put, List.setIfInBounds_toArray, List.set_cons_zero, List.set_cons_succ, i64_w, i32_w]
            rfl
          refine pure_ (i := 11) (N := some 278) (v := ?_) (a' := ?_) #[true, true, true, true, true, true, true, true, true, true, true, true, false, false, false, false, false, false, false] rfl rfl (any_of HT_.out (by kernel_rfl)) (fun _ _ _ h => h) (Or.inl ⟨by rfl, ?_⟩) ?_ ?_
          rotate_left
          · intro w'
            go_simp
            with_reducible rfl
          rotate_left
          · simp only [Act.put, List.setIfInBounds_toArray, List.set_cons_zero, List.set_cons_succ, i64_w, i32_w]
            rfl
          refine take_ (i := 12) (N := some 279) (v := ?_) (a' := ?_) #[true, true, true, true, true, true, true, true, true, true, true, true, true, false, false, false, false, false, false] rfl rfl (take_ofW HT_.out HW_.out (by kernel_rfl)) (fun _ _ _ h => h) (Or.inl ⟨by rfl, ?_⟩) hHeld ?_ ?_
          rotate_left
          · rintro w' ⟨s0, s1, s2, s3⟩
            go_simp
            with_reducible rfl
          rotate_left
          · simp only [Act.put, List.setIfInBounds_toArray, List.set_cons_zero, List.set_cons_succ, i64_w, i32_w]
            rfl
          refine one_ (i := 13) (N := some 280) #[true, true, true, true, true, true, true, true, true, true, true, true, true, true, false, false, false, false, false] rfl rfl (one_of HT_.out (by kernel_rfl)) (by decide) (fun K hK => ?_)
          refine goes_ Tryd.func24 (by kernel_rfl) rfl #[.slice Au u.length cu, .string (rdOf ByteArray.empty W (rd (rd_L2 P z) 0)), .string (rdOf ByteArray.empty W (rd (rd_L2 P z) 1))] (by rfl) rfl rfl (by (try simp only [List.map_toArray, List.map_cons, List.map_nil]); first | done | rfl | (simp only [List.length_drop, List.length_take]; rfl)) ?_
          with_reducible refine (impl_LookAlike.calls k _ _ u (rdOf ByteArray.empty W (rd (rd_L2 P z) 0)) (rdOf ByteArray.empty W (rd (rd_L2 P z) 1)) true true _ ?side1 ?side2 HQ.out).mono ?_
          (case side1 => repeat (first | exact (Kd.R_reads' Hu.out).2.2 | (with_reducible refine Kd.C_alloc ?_ _) | (with_reducible refine Kd.C_drewN ?_ _) | (with_reducible refine Kd.C_drew ?_)))
          (case side2 => exact (Kd.R_reads' Hu.out).2.1)
          rintro e w169 ⟨rfl, hb⟩
          have HS0_ := (hb.cell (World.block_lt_of_cell? _ _ (hHeld.1))).trans (hHeld.1)
          have HS1_ := (hb.cell (World.block_lt_of_cell? _ _ (hHeld.2.1))).trans (hHeld.2.1)
          have HS2_ := (hb.cell (World.block_lt_of_cell? _ _ (hHeld.2.2.1))).trans (hHeld.2.2.1)
          have HS3_ := (hb.cell (World.block_lt_of_cell? _ _ (hHeld.2.2.2))).trans (hHeld.2.2.2)
          refine ⟨_, rfl, ?_⟩
          have n0_ := Aside0.mk (Kd.R_below (by (with_reducible repeat (first | apply Kd.R_alloc | apply Kd.R_drewN | apply Kd.R_drew)); exact Hu.out) hb)
          have n1_ := Aside0.mk (Kd.R_below (by (with_reducible repeat (first | apply Kd.R_alloc | apply Kd.R_drewN | apply Kd.R_drew)); exact Hw.out) hb)
          have n3_ := Aside0.mk (Kd.S_below (by (with_reducible repeat (first | apply Kd.S_alloc | apply Kd.S_drewN | apply Kd.S_drew)); exact Hps.out) hb)
          have n4_ := Aside0.mk (Kd.R_below (by (with_reducible repeat (first | apply Kd.R_alloc | apply Kd.R_drewN | apply Kd.R_drew)); exact HL533_0.out) hb)
          have n5_ := Aside0.mk (Kd.C_below (by repeat (first | (with_reducible exact HR533_0.out) | (with_reducible refine Kd.C_alloc ?_ _) | (with_reducible refine Kd.C_drewN ?_ _) | (with_reducible refine Kd.C_drew ?_) | exact HR533_0.out)) hb)
          have n6_ := Aside0.mk (below_step (by repeat (first | (with_reducible first | exact HB.out | apply below_alloc | apply pw_below_drewN | apply below_drew1) | exact HB.out)) hb)
          clear Hu
          clear Hw
          clear Hps
          clear HL533_0
          clear HR533_0
          clear HB
          have Hu := n0_
          have Hw := n1_
          have Hps := n3_
          have HL533_0 := n4_
          have HR533_0 := n5_
          have HB := n6_
          clear n0_ n1_ n3_ n4_ n5_ n6_
          (try clear hb)
          (try clear hb2)
          (try clear hk)
          (try clear hi)
          refine hK.out _ _ ⟨HS0_, HS1_, HS2_, HS3_⟩ (fun hHeld => ?_)
          clear hK K
          refine norm_ (a' := ?_) ?_ ?_
          rotate_left
          · show Act.put _ (some 280) _ = _
            simp only [Act.put, List.setIfInBounds_toArray, List.set_cons_zero, List.set_cons_succ, i64_w, i32_w]
            rfl
          refine pure_ (i := 14) (N := some 266) (v := ?_) (a' := ?_) #[true, true, true, true, true, true, true, true, true, true, true, true, true, true, true, false, false, false, false] rfl rfl (any_of HT_.out (by kernel_rfl)) (fun _ _ _ h => h) (Or.inl ⟨by rfl, ?_⟩) ?_ ?_
          rotate_left
          · intro w'
            go_simp
            with_reducible rfl
          rotate_left
          · simp only [Act.put, List.setIfInBounds_toArray, List.set_cons_zero, List.set_cons_succ, i64_w, i32_w]
            rfl
          refine pure_ (i := 15) (N := some 281) (v := ?_) (a' := ?_) #[true, true, true, true, true, true, true, true, true, true, true, true, true, true, true, true, false, false, false] rfl rfl (any_of HT_.out (by kernel_rfl)) (fun _ _ _ h => h) (Or.inl ⟨by rfl, ?_⟩) ?_ ?_
          rotate_left
          · intro w'
            go_simp
            with_reducible rfl
          rotate_left
          · simp only [Act.put, List.setIfInBounds_toArray, List.set_cons_zero, List.set_cons_succ, i64_w, i32_w]
            rfl
          refine pure_ (i := 16) (N := some 282) (v := ?_) (a' := ?_) #[true, true, true, true, true, true, true, true, true, true, true, true, true, true, true, true, true, false, false] rfl rfl (any_of HT_.out (by kernel_rfl)) (fun _ _ _ h => h) (Or.inl ⟨by rfl, ?_⟩) ?_ ?_
          rotate_left
          · intro w'
            go_simp
            with_reducible rfl
          rotate_left
          · simp only [Act.put, List.setIfInBounds_toArray, List.set_cons_zero, List.set_cons_succ, i64_w, i32_w]
            rfl
          refine pure_ (i := 17) (N := some 46) (v := ?_) (a' := ?_) #[true, true, true, true, true, true, true, true, true, true, true, true, true, true, true, true, true, true, false] rfl rfl (any_of HT_.out (by kernel_rfl)) (fun _ _ _ h => h) (Or.inl ⟨by rfl, ?_⟩) ?_ ?_
          rotate_left
          · intro w'
            go_simp
            with_reducible rfl
          rotate_left
          · simp only [Act.put, List.setIfInBounds_toArray, List.set_cons_zero, List.set_cons_succ, i64_w, i32_w]
            rfl
          refine pure_ (i := 18) (N := some 47) (v := ?_) (a' := ?_) #[true, true, true, true, true, true, true, true, true, true, true, true, true, true, true, true, true, true, true] rfl rfl (any_of HT_.out (by kernel_rfl)) (fun _ _ _ h => h) (Or.inl ⟨by rfl, ?_⟩) ?_ ?_
          rotate_left
          · intro w'
            go_simp
            with_reducible rfl
          rotate_left
          · simp only [Act.put, List.setIfInBounds_toArray, List.set_cons_zero, List.set_cons_succ, i64_w, i32_w]
            rfl
          refine done_ (done_of HT_.out (by kernel_rfl)) ?_
          try go_wp2
          have n0_ := Aside0.mk (Kd.R_drew Hu.out)
          have n1_ := Aside0.mk (Kd.R_drew Hw.out)
          have n3_ := Aside0.mk (Kd.S_drew Hps.out)
          have n4_ := Aside0.mk (Kd.R_drew HL533_0.out)
          have n5_ := Aside0.mk (Kd.C_drew HR533_0.out)
          have n6_ := Aside0.mk (below_drew1 HB.out)
          clear Hu
          clear Hw
          clear Hps
          clear HL533_0
          clear HR533_0
          clear HB
          have Hu := n0_
          have Hw := n1_
          have Hps := n3_
          have HL533_0 := n4_
          have HR533_0 := n5_
          have HB := n6_
          clear n0_ n1_ n3_ n4_ n5_ n6_
          have p540 : 0 ≤ (0 : Int) := (by omega)
          have q540 : 0 < ((rd_L2 P z).length : Int) := of_decide_eq_true (by first | (with_reducible assumption) | assumption)
          obtain ⟨ad540, e540, hx540_0⟩ := Kd.at_int (by repeat (first | (with_reducible exact HR533_0.out) | (with_reducible refine Kd.C_alloc ?_ _) | (with_reducible refine Kd.C_drewN ?_ _) | (with_reducible refine Kd.C_drew ?_) | exact HR533_0.out)) 0 p540 q540
          obtain rfl : ad534 = ad540 := (by injection e540)
          have qi540 : (0 < (rd_L2 P z).length) = True := eq_true (by omega)
          (try rw [show ((0 : Int)).toNat = 0 from rfl] at hx540_0)
          (try rw [Addr.add_zero'] at hx540_0)
          replace p540 := eq_true p540
          replace q540 := eq_true q540
          have p541 : 0 ≤ (1 : Int) := (by omega)
          have q541 : 1 < ((rd_L2 P z).length : Int) := of_decide_eq_true (by first | (with_reducible assumption) | assumption)
          obtain ⟨ad541, e541, hx541_0⟩ := Kd.at_int (by repeat (first | (with_reducible exact HR533_0.out) | (with_reducible refine Kd.C_alloc ?_ _) | (with_reducible refine Kd.C_drewN ?_ _) | (with_reducible refine Kd.C_drew ?_) | exact HR533_0.out)) 1 p541 q541
          obtain rfl : ad534 = ad541 := (by injection e541)
          (try simp only [show (1 : Int).toNat = 1 from rfl, Nat.reduceMul, Nat.reduceEqDiff, Go.Addr.add, ↓reduceIte] at hx541_0)
          have qi541 : (1 < (rd_L2 P z).length) = True := eq_true (by omega)
          (try rw [show ((1 : Int)).toNat = 1 from rfl] at hx541_0)
          replace p541 := eq_true p541
          replace q541 := eq_true q541
          refine start_ (n := 15) (S := fun w' => w'.cell? ad534 = some (.int .i64 (rd (rd_L2 P z) 0)) ∧ w'.cell? ⟨ad534.block, ad534.off + 1, none⟩ = some (.int .i64 (rd (rd_L2 P z) 1))) (ds := []) #[false, false, false, false, false, false, false, false, false, false, false, false, false, false, false] (by kernel_rfl) rfl rfl ⟨hx540_0, hx541_0⟩ (fun hHeld => ?_); refine with_tabW laws_FnAlphabets.tab36 laws_FnAlphabets.bits36 (fun HT_ HW_ => ?_)
          generalize w169.drew = w170 at Hu Hw Hps HL533_0 HR533_0 HB hx540_0 hx541_0 hHeld ⊢
          refine pure_ (i := 0) (N := some 283) (v := ?_) (a' := ?_) #[true, false, false, false, false, false, false, false, false, false, false, false, false, false, false] rfl rfl (any_of HT_.out (by kernel_rfl)) (fun _ _ _ h => h) (Or.inl ⟨by rfl, ?_⟩) ?_ ?_
          rotate_left
          · intro w'
            go_simp
            with_reducible rfl
          rotate_left
          · simp only [Act.put, List.setIfInBounds_toArray, List.set_cons_zero, List.set_cons_succ, i64_w, i32_w]
            rfl
          refine pure_ (i := 1) (N := some 284) (v := ?_) (a' := ?_) #[true, true, false, false, false, false, false, false, false, false, false, false, false, false, false] rfl rfl (any_of HT_.out (by kernel_rfl)) (fun _ _ _ h => h) (Or.inl ⟨by rfl, ?_⟩) ?_ ?_
          rotate_left
          · intro w'
            go_simp
            with_reducible rfl
          rotate_left
          · simp only [Act.put, List.setIfInBounds_toArray, List.set_cons_zero, List.set_cons_succ, i64_w, i32_w]
            rfl
          refine pure_ (i := 2) (N := some 285) (v := ?_) (a' := ?_) #[true, true, true, false, false, false, false, false, false, false, false, false, false, false, false] rfl rfl (any_of HT_.out (by kernel_rfl)) (fun _ _ _ h => h) (Or.inl ⟨by rfl, ?_⟩) ?_ ?_
          rotate_left
          · intro w'
            go_simp
            with_reducible rfl
          rotate_left
          · simp only [Act.put, List.setIfInBounds_toArray, List.set_cons_zero, List.set_cons_succ, i64_w, i32_w]
            rfl
          refine pure_ (i := 3) (N := some 286) (v := ?_) (a' := ?_) #[true, true, true, true, false, false, false, false, false, false, false, false, false, false, false] rfl rfl (any_of HT_.out (by kernel_rfl)) (fun _ _ _ h => h) (Or.inl ⟨by rfl, ?_⟩) ?_ ?_
          rotate_left
          · intro w'
            go_simp
            with_reducible rfl
          rotate_left
          · simp only [Act.put, List.setIfInBounds_toArray, List.set_cons_zero, List.set_cons_succ, i64_w, i32_w]
            rfl
          refine pure_ (i := 4) (N := some 287) (v := ?_) (a' := ?_) #[true, true, true, true, true, false, false, false, false, false, false, false, false, false, false] rfl rfl (any_of HT_.out (by kernel_rfl)) (fun _ _ _ h => h) (Or.inl ⟨by rfl, ?_⟩) ?_ ?_
          rotate_left
          · intro w'
            go_simp
            with_reducible rfl
          rotate_left
          · simp only [Act.put, List.setIfInBounds_toArray, List.set_cons_zero, List.set_cons_succ, i64_w, i32_w]
            rfl
          refine pure_ (i := 5) (N := some 288) (v := ?_) (a' := ?_) #[true, true, true, true, true, true, false, false, false, false, false, false, false, false, false] rfl rfl (any_of HT_.out (by kernel_rfl)) (fun _ _ _ h => h) (Or.inl ⟨by rfl, ?_⟩) ?_ ?_
          rotate_left
          · intro w'
            go_simp
            with_reducible rfl
          rotate_left
          · simp only [Act.put, List.setIfInBounds_toArray, List.set_cons_zero, List.set_cons_succ, i64_w, i32_w]
            rfl
          refine pure_ (i := 6) (N := some 289) (v := ?_) (a' := ?_) #[true, true, true, true, true, true, true, false, false, false, false, false, false, false, false] rfl rfl (any_of HT_.out (by kernel_rfl)) (fun _ _ _ h => h) (Or.inl ⟨by rfl, ?_⟩) ?_ ?_
          rotate_left
          · intro w'
            go_simp
            with_reducible rfl
          rotate_left
          · simp only [Act.put, List.setIfInBounds_toArray, List.set_cons_zero, List.set_cons_succ, i64_w, i32_w]
            rfl
          refine pure_ (i := 7) (N := some 290) (v := ?_) (a' := ?_) #[true, true, true, true, true, true, true, true, false, false, false, false, false, false, false] rfl rfl (any_of HT_.out (by kernel_rfl)) (fun _ _ _ h => h) (Or.inl ⟨by rfl, ?_⟩) ?_ ?_
          rotate_left
          · intro w'
            go_simp
            with_reducible rfl
          rotate_left
          · simp only [Act.put, List.setIfInBounds_toArray, List.set_cons_zero, List.set_cons_succ, i64_w, i32_w]
            rfl
          refine pure_ (i := 8) (N := some 291) (v := ?_) (a' := ?_) #[true, true, true, true, true, true, true, true, true, false, false, false, false, false, false] rfl rfl (any_of HT_.out (by kernel_rfl)) (fun _ _ _ h => h) (Or.inl ⟨by rfl, ?_⟩) ?_ ?_
          rotate_left
          · intro w'
            go_simp
            with_reducible rfl
          rotate_left
          · simp only [Act.put, List.setIfInBounds_toArray, List.set_cons_zero, List.set_cons_succ, i64_w, i32_w]
            rfl
          refine pure_ (i := 10) (N := some 293) (v := ?_) (a' := ?_) #[true, true, true, true, true, true, true, true, true, false, true, false, false, false, false] rfl rfl (any_of HT_.out (by kernel_rfl)) (fun _ _ _ h => h) (Or.inl ⟨by rfl, ?_⟩) ?_ ?_
          rotate_left
          · intro w'
            go_simp
            with_reducible rfl
          rotate_left
          · simp only [Act.put, List.setIfInBounds_toArray, List.set_cons_zero, List.set_cons_succ, i64_w, i32_w]
            rfl
          refine pure_ (i := 11) (N := some 294) (v := ?_) (a' := ?_) #[true, true, true, true, true, true, true, true, true, false, true, true, false, false, false] rfl rfl (any_of HT_.out (by kernel_rfl)) (fun _ _ _ h => h) (Or.inl ⟨by rfl, ?_⟩) ?_ ?_
          rotate_left
          · intro w'
            go_simp
            with_reducible rfl
          rotate_left
          · simp only [Act.put, List.setIfInBounds_toArray, List.set_cons_zero, List.set_cons_succ, i64_w, i32_w]
            rfl
          refine take_ (i := 9) (N := some 292) (v := ?_) (a' := ?_) #[true, true, true, true, true, true, true, true, true, true, true, true, false, false, false] rfl rfl (take_ofW HT_.out HW_.out (by kernel_rfl)) (fun _ _ _ h => h) (Or.inl ⟨by rfl, ?_⟩) hHeld ?_ ?_
          rotate_left
          · rintro w' ⟨s0, s1⟩
            go_simp
            with_reducible rfl
          rotate_left
          · simp only [Act.put, List.setIfInBounds_toArray, List.set_cons_zero, List.set_cons_succ, i64_w, i32_w]
            rfl
          refine take_ (i := 12) (N := some 295) (v := ?_) (a' := ?_) #[true, true, true, true, true, true, true, true, true, true, true, true, true, false, false] rfl rfl (take_ofW HT_.out HW_.out (by kernel_rfl)) (fun _ _ _ h => h) (Or.inl ⟨by rfl, ?_⟩) hHeld ?_ ?_
          rotate_left
          · rintro w' ⟨s0, s1⟩
            go_simp
            with_reducible rfl
          rotate_left
          · simp only [Act.put, List.setIfInBounds_toArray, List.set_cons_zero, List.set_cons_succ, i64_w, i32_w]
            rfl
          refine pure_ (i := 13) (N := some 296) (v := ?_) (a' := ?_) #[true, true, true, true, true, true, true, true, true, true, true, true, true, true, false] rfl rfl (any_of HT_.out (by kernel_rfl)) (fun _ _ _ h => h) (Or.inl ⟨by rfl, ?_⟩) ?_ ?_
          rotate_left
          · intro w'
            go_simp
            with_reducible rfl
          rotate_left
          · simp only [Act.put, List.setIfInBounds_toArray, List.set_cons_zero, List.set_cons_succ, i64_w, i32_w]
            rfl
          refine pure_ (i := 14) (N := some 297) (v := ?_) (a' := ?_) #[true, true, true, true, true, true, true, true, true, true, true, true, true, true, true] rfl rfl (any_of HT_.out (by kernel_rfl)) (fun _ _ _ h => h) (Or.inl ⟨by rfl, ?_⟩) ?_ ?_
          rotate_left
          · intro w'
            go_simp
            with_reducible rfl
          rotate_left
          · simp only [Act.put, List.setIfInBounds_toArray, List.set_cons_zero, List.set_cons_succ, i64_w, i32_w]
            rfl
          refine done_ (done_of HT_.out (by kernel_rfl)) ?_
          try go_wp2
          go_roundg (gk - 1)
          case measure => have := HX.out.2; have := HLT.out; omega
          case rel => exact ⟨wrap64 (z + 1), rfl, ⟨by rw [HW.out]; have := HX.out; have := HLT.out; omega⟩, Hu, Hw, Hps, HB⟩
        · have hd : decide (z < (P.length : Int)) = false := decide_eq_false hlt
          clear hlt HX HLL HP Hu Hw Hps
          obtain ⟨p, hp⟩ : ∃ p, wrap64 (vh * (vw.size : Int)) = p := ⟨_, rfl⟩
          obtain ⟨q, hq⟩ : ∃ q, wrap64 (wrap64 (wrap64 (vh + vc) + 1) * (vw.size : Int)) = q := ⟨_, rfl⟩
          have hn2 : b5 = true → ¬ (n < p) ∧ ¬ (q < n) := fun h => by have := HN.out h; unfold laws_FnAlphabets.Time at this; rw [hp, hq] at this; exact this
          cases b5
          · cases b7
            · go_wp2
              go_ret
              exact ⟨rfl, HB.out⟩
            · have he := HE.out rfl
              unfold laws_FnAlphabets.Ends at he
              by_cases hc : 0 < c
              · have e3 : decide (0 < c) = true := decide_eq_true hc
                have e4 : decide (0 < (F.length : Int)) = true := decide_eq_true (by have := he.1 hc; omega)
                have e5 : (0 < F.length) = True := eq_true (he.1 hc)
                clear he
                go_wp2
                go_ret
                exact ⟨rfl, HB.out⟩
              · have e3 : decide (0 < c) = false := decide_eq_false hc
                have e6 : ¬ (0 < F.length) := fun h => hc (he.2 h)
                have e4 : decide (0 < (F.length : Int)) = false := decide_eq_false (by omega)
                have e5 : (0 < F.length) = False := eq_false e6
                clear he
                go_wp2
                go_ret
                exact ⟨rfl, HB.out⟩
          · have hn3 := hn2 rfl
            have e1 : decide (n < p) = false := decide_eq_false hn3.1
            have e2 : decide (q < n) = false := decide_eq_false hn3.2
            clear hn2 hn3
            cases b7
            · go_wp2
              go_ret
              exact ⟨rfl, HB.out⟩
            · have he := HE.out rfl
              unfold laws_FnAlphabets.Ends at he
              by_cases hc : 0 < c
              · have e3 : decide (0 < c) = true := decide_eq_true hc
                have e4 : decide (0 < (F.length : Int)) = true := decide_eq_true (by have := he.1 hc; omega)
                have e5 : (0 < F.length) = True := eq_true (he.1 hc)
                clear he
                go_wp2
                go_ret
                exact ⟨rfl, HB.out⟩
              · have e3 : decide (0 < c) = false := decide_eq_false hc
                have e6 : ¬ (0 < F.length) := fun h => hc (he.2 h)
                have e4 : decide (0 < (F.length : Int)) = false := decide_eq_false (by omega)
                have e5 : (0 < F.length) = False := eq_false e6
                clear he
                go_wp2
                go_ret
                exact ⟨rfl, HB.out⟩
theorem laws_FnAlphabets.calls (k : Nat) (A0 : Option Addr) (c0 : Nat) (l0 : List Int) (A1 : Option Addr) (c1 : Nat) (l1 : List Int) (r : Bool) (w : World) (hr0 : Kd.C (Kd.int .u8) w A0 l0.length l0) (hc0 : l0.length ≤ c0) (hr1 : Kd.C (Kd.int .u8) w A1 l1.length l1) (hc1 : l1.length ≤ c1) (htab : Lib.TabIs Tryd.prog w "internal/strconv.uint64pow10" .u64 Lib.pow10Tab) (h : laws_FnAlphabets.f k l0 l1 = some r) :
    Calls Tryd.prog 3 #[.slice A0 l0.length c0, .slice A1 l1.length c1] w fun e w' => e = .returned (.bool r) ∧ Below w.heap.size w w' := by
  unfold laws_FnAlphabets.f at h
  by_cases hb : wrap64 ((l0.length : Int) + (l1.length : Int)) > 1048576
  · rw [if_pos hb] at h
    obtain rfl := Option.some.inj h
    exact laws_FnAlphabets.big k A0 c0 l0 A1 c1 l1 w (decide_eq_true hb)
  rw [if_neg hb] at h
  obtain ⟨co, hd1, h'⟩ := Option.bind_eq_some_iff.mp h
  clear h
  have h := h'
  clear h'
  obtain ⟨⟨L, b1⟩, hs1, h'⟩ := Option.bind_eq_some_iff.mp h
  clear h
  have h := h'
  clear h'
  obtain ⟨⟨u, W⟩, hd2, h'⟩ := Option.bind_eq_some_iff.mp h
  clear h
  have h := h'
  clear h'
  obtain ⟨⟨P, b2⟩, hs2, h'⟩ := Option.bind_eq_some_iff.mp h
  clear h
  have h := h'
  clear h'
  obtain ⟨S, hd3, h'⟩ := Option.bind_eq_some_iff.mp h
  clear h
  have h := h'
  clear h'
  obtain ⟨⟨t, b3⟩, hs3, h'⟩ := Option.bind_eq_some_iff.mp h
  clear h
  have h := h'
  clear h'
  obtain ⟨⟨v, vw, vh, vc⟩, hd4, h'⟩ := Option.bind_eq_some_iff.mp h
  clear h
  have h := h'
  clear h'
  obtain ⟨⟨n, b5⟩, hs4, h'⟩ := Option.bind_eq_some_iff.mp h
  clear h
  have h := h'
  clear h'
  obtain ⟨⟨x, y⟩, hd5, h'⟩ := Option.bind_eq_some_iff.mp h
  clear h
  have h := h'
  clear h'
  obtain ⟨⟨c, b7⟩, hs5, h'⟩ := Option.bind_eq_some_iff.mp h
  clear h
  have h := h'
  clear h'
  obtain ⟨⟨F, b9⟩, hs6, h'⟩ := Option.bind_eq_some_iff.mp h
  clear h
  have h := h'
  clear h'
  simp only at hs2 hs4 hs5 hs6 h
  split at h
  · rename_i hc
    obtain rfl := Option.some.inj h
    simp only [Bool.and_eq_true, Bool.or_eq_true, decide_eq_true_eq] at hc
    obtain ⟨rfl, hi1, hi2, hi3, hi4, hi5, hi6, hq1, hq2, hq3, ha, hL, hP, hN, hE⟩ := hc
    refine laws_FnAlphabets.main k A0 c0 l0 A1 c1 l1 co L b1 u W P b2 S t b3 v vw vh vc n b5 x y c b9 F w hr0 hc0 hr1 hc1 htab (decide_eq_false hb) hd1 hi1 hs1 hd2 hi2 hs2 hd3 hi3 hs3 hd4 hi4 hs4 hd5 hi5 hs5 hi6 hs6 hq1 hq2 hq3 ha (laws_FnAlphabets.all_of k co L hL) (laws_FnAlphabets.two_of k u W P hP) (fun ho => ?_) (fun ho => ?_)
    · subst ho
      rcases hN with hN | hN
      · cases hN
      · unfold laws_FnAlphabets.tm at hN
        simp only [Bool.and_eq_true, decide_eq_true_eq] at hN
        exact hN
    · subst ho
      rcases hE with hE | hE
      · cases hE
      · unfold laws_FnAlphabets.en at hE
        exact decide_eq_decide.1 (beq_iff_eq.1 hE)
  · cases h

end Go.Proofs.YtopmmmggjohkeaaDoor.FA
